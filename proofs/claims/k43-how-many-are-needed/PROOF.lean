import PyProof.Rows.All
import HandS.Base
import HandS.Call
import HandS.CallSlots
import HandS.ClsMeth
import HandS.Conv
import HandS.Deep
import HandS.Defaults
import HandS.Dict
import HandS.Ends
import HandS.Exc
import HandS.ExcField
import HandS.ExcInit
import HandS.ExcIs
import HandS.ExcOwn
import HandS.ForMost
import HandS.Head0
import HandS.Head1
import HandS.Head2
import HandS.HeadEnd
import HandS.HeadHook1
import HandS.HeadHook2
import HandS.IsInst
import HandS.Iter
import HandS.More
import HandS.SetFor
import HandS.RaiseMore
import HandS.Small
import HandS.Steps
import HandS.SortInts
import HandS.Strs
import HandS.Style
import HandS.Text
import HandS.TryOnly
import HandS.TupAny
import HandS.TupMul
import HandS.TupSets
import HandS.WideBits
import HandS.Words
import HandS.WordsExc
import HandS.Zip
import KE.DatumOrd
import KE.GoesEnum
import KE.KSortTup
import KE.KStateDown
import KE.LtData
import Lean
import OpenK.AllK
import PyProof.AutoIntG1
import PyProof.AutoIntG2
import PyProof.AutoIntG9
import PyProof.ReprRoads
import PyProof.Rows.SetFrom
import PyProof.Rows.SortShellAny
import Wide.All
import Wide.FinOn
import HandS.SortKw
import KE.KMinKey
import HandS.SortOrd
import KE.KDictCopyH
import KE.KDictZip
import PyProof.ListNew
import HandS.ExcValue
import KE.KRevSl
import HandS.DictTup
import KE.KDictDisplayH
import KE.KDictOf
import KE.KDictPairs
import KE.KEqDict
import PyProof.DictMoreH
import PyProof.DictRoadsH
import PySem.Challenge.RW_sparecut_k43_how_many_are_needed
set_option Elab.async false
set_option linter.all false
set_option maxRecDepth 100000
set_option maxHeartbeats 0
/-! G3aa: what the head looks at -/
namespace G3
open PySem PySem.Spec PySem.Calls PyProof.Rows L2
section
open PySem.W (Looks InstAt findIn specialIn takesIn subIn mroIn hasDictIn clsIn findObj any_some looks_findIn looks_find looks_subIn KitX)
def upN : Str := "SpareError"
/-- is a class C's exception one of c? -/
def exSub (x c : Str) : Bool := c == upN || x == c
/-- the classes, all of them -/
def exN : List Str := ["NoCut", "NoLadder", "NoInstead", "TooGreat", "TooMany", "NoTelling", "NoText", "NoRow", "NoBack"]
def ceB (K : PySem.W.Frag) (D : Addr) : Bool :=
  decide (findIn K (.ref D) "__getattribute__" = some (some (.builtin "BaseException.__getattribute__"))) && (decide (findIn K (.ref D) "__getattr__" = some none) && (decide (subIn K (.ref D) (.type "BaseException") = some true) &&
  (hasDictIn K D && (decide (findIn K (.ref D) "__class__" = some (some (.builtin "object.__class__"))) && (decide (specialIn K (.builtin "object.__class__") "__get__" = some (some (.builtin "getset_descriptor.__get__"))) &&
  (decide (takesIn K (.builtin "object.__class__") = some true) && decide (mroIn K D (.type "object") = some true)))))))
def exOne (K : PySem.W.Frag) (x : Str) : Bool :=
  decide (PySem.W.nsIn K mainGlobals x = some (some (.ref (He.ga K x)))) && (ceB K (He.ga K x) && (decide (PySem.W.typeIn K (.ref (He.ga K x)) = some (.type "type")) && (decide (findIn K (.ref (He.ga K x)) "at" = some none) &&
  (decide (PySem.W.kitOne K (.ref (He.ga K x)) (.type "ValueError") = some true) && PySem.W.keepIn K (.ref (He.ga K x))))))
def exTwo (K : PySem.W.Frag) (x c : Str) : Bool :=
  decide (PySem.W.nsIn K mainGlobals c = some (some (.ref (He.ga K c)))) && (decide (PySem.W.exmOne K (.ref (He.ga K x)) (.ref (He.ga K c)) = some (exSub x c)) && decide (PySem.W.kitOne K (.ref (He.ga K x)) (.ref (He.ga K c)) = some (exSub x c)))
/-- the written part says of the classes xs what it should -/
def exB (xs : List Str) (K : PySem.W.Frag) : Bool := xs.all fun x => exOne K x && (upN :: xs).all fun c => exTwo K x c
end
/-- an own class of exceptions with an own __init__ -/
def oexB (K : PySem.W.Frag) (C : Addr) : Bool := (match K.lookup C with
  | some ⟨.type t, _, .cls cd, sl⟩ => (match cd.mro, sl.toList with
    | .ref C' :: bm, [_, _, _, _, some (.builtin n), _] => decide (t = "type") && (decide (C' = C) && (decide (n = "ValueError.__new__") && (!cd.hasDel && (cd.hasDict && refsVE' bm))))
    | _, _ => false)
  | _ => false) && (decide (PySem.W.findIn K (.ref C) "__setattr__" = some (some (.builtin "object.__setattr__"))) && (decide (PySem.W.subIn K (.ref C) (.type "BaseException") = some true) && (decide (PySem.W.typeIn K (.ref C) = some (.type "type")) && PySem.W.keepIn K (.ref C))))
where refsVE' := PySem.HandSPX.refsVE
/-- SpareError, asked for its __init__ -/
def upB (K : PySem.W.Frag) : Bool := PySem.W.readsIn K (He.ga K upN) (.type "type") && (decide (PySem.W.specialIn K (.ref (He.ga K upN)) "__getattribute__" = some (some (.builtin "type.__getattribute__"))) &&
  decide (PySem.W.nsIn K mainGlobals upN = some (some (.ref (He.ga K upN)))) && (match PySem.W.findCls K (.ref (He.ga K upN)) (.type "type") "__init__" with | some (.val (.builtin n)) => decide (n = "ValueError.__init__") | _ => false))
/-- a class with a field at -/
def atB (C : Str) (K : PySem.W.Frag) : Bool := decide (PySem.W.nsIn K mainGlobals C = some (some (.ref (He.ga K C)))) && (oexB K (He.ga K C) && (decide (PySem.W.findIn K (.ref (He.ga K C)) "__init__" = some (some (.ref (He.ma K (He.ga K C) "__init__")))) &&
  (decide (PySem.W.typeIn K (.ref (He.ma K (He.ga K C) "__init__")) = some (.type "function")) && (decide (PySem.W.findIn K (.ref (He.ga K C)) "at" = some none) && upB K))))
/-- a def of a class, called by the class's name -/
def clmB (C m : Str) (K : PySem.W.Frag) : Bool := decide (PySem.W.nsIn K mainGlobals C = some (some (.ref (He.ga K C)))) && (PySem.W.readsIn K (He.ga K C) (.type "type") && (decide (PySem.W.specialIn K (.ref (He.ga K C)) "__getattribute__" = some (some (.builtin "type.__getattribute__"))) &&
  ((match PySem.W.findCls K (.ref (He.ga K C)) (.type "type") m with | some (.val (.ref f)) => decide (f = He.ma K (He.ga K C) m) | _ => false) && PySem.W.handedIn (.ref (He.ma K (He.ga K C) m)))))
/-- a written tuple of texts -/
def gtpB (x : Str) (ws : List Str) (K : PySem.W.Frag) : Bool := match PySem.W.nsIn K mainGlobals x with
  | some (some (.ref a)) => (match K.lookup a with
    | some ⟨.type t, _, .seq its _, _⟩ => decide (t = "tuple") && (decide (its.size ≤ 1000) && decide (its.toList.map (fun v => match v with | .str z _ => some z | _ => none) = ws.map some))
    | _ => false)
  | _ => false
/-- the new ones of some addresses, each once: a number holds which were met -/
def newA : List Addr → Nat → List Addr → Nat × List Addr
  | [], m, r => (m, r.reverse)
  | a :: as, m, r => match Nat.testBit m a with
    | true => newA as m r
    | false => HandSHeadRun.frNat (m ||| (1 <<< a)) fun m' => newA as m' (a :: r)
def isFn (o : Obj) : Bool := match o.data with
  | .func _ => true
  | _ => false
/-- what some objects name; deep: defs alone are looked into -/
def namedA (g : Addr → Option Obj) (deep : Bool) (as : List Addr) : List Addr := as.flatMap fun a => match g a with
  | some o => if deep then (if isFn o then He.refsD o else []) else He.refsD o
  | none => []
def levA (g : Addr → Option Obj) : List Bool → Nat → List Addr → List Addr
  | [], _, _ => []
  | b :: bs, m, as => match newA (namedA g b as) m [] with
    | (m', new) => new ++ levA g bs m' new
/-- three levels from the globals on, then what the defs met there name; n is the levels beyond -/
def addrA (g : Addr → Option Obj) (n : Nat) : List Addr := cStatics :: mainGlobals :: levA g (false :: false :: false :: List.replicate (n - 3) true) (1 <<< mainGlobals) [mainGlobals]
section
variable (xb : List (PySem.W.Frag → Bool)) (fa : List He.Fa) (fn : List He.DefD)
def obsX (K : PySem.W.Frag) : He.AlD := ((xb.all fun f => f K) && (He.obsD fa fn K).1, (He.obsD fa fn K).2)
def SaysX (K : PySem.W.Frag) : Prop := obsX xb fa fn K = He.valD fn
def obsXG (n : Nat) (g : Addr → Option Obj) : He.AlD := obsX xb fa fn (He.frG g (addrA g n))
end
def hookX (n : Nat) (xb : List (PySem.W.Frag → Bool)) (fa : List He.Fa) (fn : List He.DefD) : PySem.W.Hook where
  α := He.AlD
  obs := fun s => obsXG xb fa fn n s.heap.get?
  val := fun _ => He.valD fn
  says := fun _ h => ∃ K : PySem.W.Frag, K.In h ∧ SaysX xb fa fn K
  of := fun _ _ e => ⟨_, He.frG_in, e⟩
  keeps := fun _ _ _ ⟨K, hK, c⟩ k => ⟨K, PySem.W.Frag.In.keeps hK k, c⟩
theorem obsXG_eq {n : Nat} {xb : List (PySem.W.Frag → Bool)} {fa : List He.Fa} {fn : List He.DefD} {g : Addr → Option Obj} {s : Shared} (h : ∀ a, g a = s.heap.get? a) : obsXG xb fa fn n g = (hookX n xb fa fn).obs s := by
  rw [show g = s.heap.get? from funext h] <;> rfl
theorem run_join {r : PySem.W.OpenRow} {q : Program} {M n : Nat} {loose : List PySem.Str} {w : World} {xb1 xb2 : List (PySem.W.Frag → Bool)} {fa1 fa2 : List He.Fa} {fn1 fn2 : List He.DefD}
    (h1 : HandSHeadRun.RunEq r q (hookX n xb1 fa1 fn1) (fun s => obsXG xb1 fa1 fn1 n (HandSHeadRun.getT s)) M loose w)
    (h2 : HandSHeadRun.RunEq r q (hookX n xb2 fa2 fn2) (fun s => obsXG xb2 fa2 fn2 n (HandSHeadRun.getT s)) M loose w) :
    HandSHeadRun.RunEq r q (hookX n (xb1 ++ xb2) (fa1 ++ fa2) (fn1 ++ fn2)) (fun s => obsXG (xb1 ++ xb2) (fa1 ++ fa2) (fn1 ++ fn2) n (HandSHeadRun.getT s)) M loose w := by
  intro os
  have a := h1 os
  have b := h2 os
  clear h1 h2
  revert a b
  generalize HandSHeadRun.endF _ _ _ _ _ = X
  intro a b
  cases X with
  | none => cases a
  | some s =>
    rw [Option.map_some] at a b ⊢
    have a1 := Option.some.inj a
    have b1 := Option.some.inj b
    have a2 := congrArg Prod.fst a1
    have a3 := congrArg (fun z => z.2.1) a1
    have a4 : obsXG xb1 fa1 fn1 n (HandSHeadRun.getT s) = He.valD fn1 := congrArg (fun z => z.2.2) a1
    have b4 : obsXG xb2 fa2 fn2 n (HandSHeadRun.getT s) = He.valD fn2 := congrArg (fun z => z.2.2) b1
    have c4 : obsXG (xb1 ++ xb2) (fa1 ++ fa2) (fn1 ++ fn2) n (HandSHeadRun.getT s) = He.valD (fn1 ++ fn2) := by
      unfold obsXG at a4 b4 ⊢
      generalize He.frG _ _ = K at a4 b4 ⊢
      have p1 : ((xb1.all fun f => f K) && ((fa1.all fun f => f.ok K) && fn1.all fun d => d.ok K)) = true := congrArg Prod.fst a4
      have p2 : fn1.map (fun d => He.fnW K d.at_) = fn1.map He.DefD.val := congrArg Prod.snd a4
      have q1 : ((xb2.all fun f => f K) && ((fa2.all fun f => f.ok K) && fn2.all fun d => d.ok K)) = true := congrArg Prod.fst b4
      have q2 : fn2.map (fun d => He.fnW K d.at_) = fn2.map He.DefD.val := congrArg Prod.snd b4
      show ((((xb1 ++ xb2).all fun f => f K) && (((fa1 ++ fa2).all fun f => f.ok K) && (fn1 ++ fn2).all fun d => d.ok K)), (fn1 ++ fn2).map fun d => He.fnW K d.at_) = (true, (fn1 ++ fn2).map He.DefD.val)
      simp only [Bool.and_eq_true] at p1 q1
      rw [List.all_append, List.all_append, List.all_append, List.map_append, List.map_append, p1.1, p1.2.1, p1.2.2, q1.1, q1.2.1, q1.2.2, p2, q2]
      rfl
    refine congrArg some (Prod.ext a2 (Prod.ext a3 c4))
end G3
namespace G3End
open PySem PySem.Spec PyProof.Rows L2 G3
def top (i : Nat) : Stmt := PySem.Challenge.pw_sparecut_k43_how_many_are_needed.main.body.getD i (.Pass ⟨0, 0, 0, 0⟩)
abbrev s_law_s_tuples : Stmt := top 37
def d_law_s_tuples : He.DefD := ⟨("_law_s_tuples", none), "_law_s_tuples", "_law_s_tuples", defArgs s_law_s_tuples, defBody s_law_s_tuples, defScope s_law_s_tuples, [], []⟩
abbrev s_law_sholds : Stmt := top 29
def d_law_sholds : He.DefD := ⟨("_law_sholds", none), "_law_sholds", "_law_sholds", defArgs s_law_sholds, defBody s_law_sholds, defScope s_law_sholds, [], []⟩
abbrev s_law_sall_hold : Stmt := top 34
def d_law_sall_hold : He.DefD := ⟨("_law_sall_hold", none), "_law_sall_hold", "_law_sall_hold", defArgs s_law_sall_hold, defBody s_law_sall_hold, defScope s_law_sall_hold, [], []⟩
abbrev s_law_sis_setting : Stmt := top 32
def d_law_sis_setting : He.DefD := ⟨("_law_sis_setting", none), "_law_sis_setting", "_law_sis_setting", defArgs s_law_sis_setting, defBody s_law_sis_setting, defScope s_law_sis_setting, [], []⟩
abbrev s_law_sis_against : Stmt := top 36
def d_law_sis_against : He.DefD := ⟨("_law_sis_against", none), "_law_sis_against", "_law_sis_against", defArgs s_law_sis_against, defBody s_law_sis_against, defScope s_law_sis_against, [], []⟩
abbrev s_law_sthose : Stmt := top 35
def d_law_sthose : He.DefD := ⟨("_law_sthose", none), "_law_sthose", "_law_sthose", defArgs s_law_sthose, defBody s_law_sthose, defScope s_law_sthose, [], []⟩
abbrev s_law_s_due : Stmt := top 38
def d_law_s_due : He.DefD := ⟨("_law_s_due", none), "_law_s_due", "_law_s_due", defArgs s_law_s_due, defBody s_law_s_due, defScope s_law_s_due, [], []⟩
abbrev s_law_severy : Stmt := top 30
def d_law_severy : He.DefD := ⟨("_law_severy", none), "_law_severy", "_law_severy", defArgs s_law_severy, defBody s_law_severy, defScope s_law_severy, [], []⟩
abbrev s_law_sagainst : Stmt := top 31
def d_law_sagainst : He.DefD := ⟨("_law_sagainst", none), "_law_sagainst", "_law_sagainst", defArgs s_law_sagainst, defBody s_law_sagainst, defScope s_law_sagainst, [], []⟩
abbrev s_law_smixed : Stmt := top 22
def d_law_smixed : He.DefD := ⟨("_law_smixed", none), "_law_smixed", "_law_smixed", defArgs s_law_smixed, defBody s_law_smixed, defScope s_law_smixed, [], []⟩
abbrev s_law_sdraw : Stmt := top 23
def d_law_sdraw : He.DefD := ⟨("_law_sdraw", none), "_law_sdraw", "_law_sdraw", defArgs s_law_sdraw, defBody s_law_sdraw, defScope s_law_sdraw, [], []⟩
abbrev s_law_ssetting : Stmt := top 28
def d_law_ssetting : He.DefD := ⟨("_law_ssetting", none), "_law_ssetting", "_law_ssetting", defArgs s_law_ssetting, defBody s_law_ssetting, defScope s_law_ssetting, [], []⟩
abbrev s_law_s_tables : Stmt := top 39
def d_law_s_tables : He.DefD := ⟨("_law_s_tables", none), "_law_s_tables", "_law_s_tables", defArgs s_law_s_tables, defBody s_law_s_tables, defScope s_law_s_tables, [], []⟩
abbrev s_law_sclaim : Stmt := top 26
def d_law_sclaim : He.DefD := ⟨("_law_sclaim", none), "_law_sclaim", "_law_sclaim", defArgs s_law_sclaim, defBody s_law_sclaim, defScope s_law_sclaim, [], []⟩
abbrev s_law_sbook : Stmt := top 27
def d_law_sbook : He.DefD := ⟨("_law_sbook", none), "_law_sbook", "_law_sbook", defArgs s_law_sbook, defBody s_law_sbook, defScope s_law_sbook, [], []⟩
abbrev s_law_sopen : Stmt := top 24
def d_law_sopen : He.DefD := ⟨("_law_sopen", none), "_law_sopen", "_law_sopen", defArgs s_law_sopen, defBody s_law_sopen, defScope s_law_sopen, [], []⟩
abbrev s_holds : Stmt := top 1
def d_holds : He.DefD := ⟨("holds", none), "holds", "holds", defArgs s_holds, defBody s_holds, defScope s_holds, [], []⟩
abbrev s_failing : Stmt := top 2
def d_failing : He.DefD := ⟨("failing", none), "failing", "failing", defArgs s_failing, defBody s_failing, defScope s_failing, [], []⟩
abbrev s_need_few : Stmt := top 18
def d_need_few : He.DefD := ⟨("need_few", none), "need_few", "need_few", defArgs s_need_few, defBody s_need_few, defScope s_need_few, [], []⟩
abbrev s_those : Stmt := top 4
def d_those : He.DefD := ⟨("those", none), "those", "those", defArgs s_those, defBody s_those, defScope s_those, [], []⟩
abbrev s_tuples_of : Stmt := top 19
def d_tuples_of : He.DefD := ⟨("tuples_of", none), "tuples_of", "tuples_of", defArgs s_tuples_of, defBody s_tuples_of, defScope s_tuples_of, [], []⟩
abbrev s_shows_needed : Stmt := top 20
def d_shows_needed : He.DefD := ⟨("shows_needed", none), "shows_needed", "shows_needed", defArgs s_shows_needed, defBody s_shows_needed, defScope s_shows_needed, [], []⟩
abbrev s_law_srefused : Stmt := top 33
def d_law_srefused : He.DefD := ⟨("_law_srefused", none), "_law_srefused", "_law_srefused", defArgs s_law_srefused, defBody s_law_srefused, defScope s_law_srefused, [], []⟩
abbrev s_law_sthings : Stmt := top 25
def d_law_sthings : He.DefD := ⟨("_law_sthings", none), "_law_sthings", "_law_sthings", defArgs s_law_sthings, defBody s_law_sthings, defScope s_law_sthings, [], []⟩
abbrev s_law : Stmt := top 40
def d_law : He.DefD := ⟨("law", none), "law", "law", defArgs s_law, defBody s_law, defScope s_law, [], []⟩
def fn : List He.DefD := [d_law_s_tuples, d_law_sholds, d_law_sall_hold, d_law_sis_setting, d_law_sis_against, d_law_sthose, d_law_s_due, d_law_severy, d_law_sagainst, d_law_smixed, d_law_sdraw, d_law_ssetting, d_law_s_tables, d_law_sclaim, d_law_sbook, d_law_sopen, d_holds, d_failing, d_need_few, d_those, d_tuples_of, d_shows_needed, d_law_srefused, d_law_sthings, d_law]
def fa : List He.Fa := ((.glo "_law_s_tuples") :: (.glo "_law_sholds") :: (.glo "_law_sall_hold") :: (.glo "_law_sis_setting") :: (.glo "_law_sis_against") :: (.glo "_law_sthose") :: (.glo "_law_s_due") :: (.glo "_law_severy") :: (.glo "_law_sagainst") :: (.glo "_law_smixed") :: (.glo "_law_sdraw") :: (.glo "_law_ssetting") :: (.glo "_law_s_tables") :: (.glo "_law_sclaim") :: (.glo "_law_sbook") :: (.glo "_law_sopen") :: (.glo "holds") :: (.glo "failing") :: (.glo "need_few") :: (.glo "those") :: (.glo "tuples_of") :: (.glo "shows_needed") :: (.glo "_law_srefused") :: (.glo "_law_sthings") :: (.glo "law") :: (.free "len") :: (.free "all") :: (.free "any") :: (.free "abs") :: (.free "min") :: (.free "max") :: (.free "sorted") :: (.free "list") :: (.free "tuple") :: (.free "int") :: (.free "isinstance") :: (.free "str") :: (.free "range") :: (.free "repr") :: (.free "enumerate") :: (.free "set") :: (.free "zip") :: (.free "reversed") :: (.free "dict") :: (.free "ValueError") :: (.free "bool") :: (.int "MOST_LOOKED" (10)) :: (.glo "NoBack") :: (.glo "NoCut") :: (.glo "NoInstead") :: (.glo "NoLadder") :: (.glo "NoRow") :: (.glo "NoTelling") :: (.glo "NoText") :: (.glo "SpareError") :: (.glo "TooGreat") :: (.glo "TooMany") :: (.exc "TooMany") :: [])
abbrev R : PySem.W.OpenRow := PySem.W.OpenLaw.row PySem.Challenge.rw_sparecut_k43_how_many_are_needed
def xb : List (PySem.W.Frag → Bool) := [exB exN]
abbrev hk : PySem.W.Hook := hookX 4 xb fa fn
def ob (s : PySem.W.SharedT) : He.AlD := obsXG xb fa fn 4 (HandSHeadRun.getT s)
theorem ob_eq (s : PySem.W.SharedT) : ob s = hk.obs s.abs := obsXG_eq (HandSHeadRun.getT_eq s)
theorem run (w : World) : HandSHeadRun.RunEq R (PySem.W.view R.prog [40]) hk ob 6500 ("_law_s_tuples" :: "_law_sholds" :: "_law_sall_hold" :: "_law_sis_setting" :: "_law_sis_against" :: "_law_sthose" :: "_law_s_due" :: "_law_severy" :: "_law_sagainst" :: "_law_smixed" :: "_law_sdraw" :: "_law_ssetting" :: "_law_s_tables" :: "_law_sclaim" :: "_law_sbook" :: "_law_sopen" :: "holds" :: "failing" :: "need_few" :: "those" :: "tuples_of" :: "shows_needed" :: "_law_srefused" :: "_law_sthings" :: "MOST_LOOKED" :: "SpareError" :: "NoCut" :: "NoLadder" :: "NoInstead" :: "TooGreat" :: "TooMany" :: "NoTelling" :: "NoText" :: "NoRow" :: "NoBack" :: []) w := by
  intro os
  kernel_rfl
open PySem.W PySem.Calls
abbrev qq : Program := view R.prog [40]
def ls : List PySem.Str := ("_law_s_tuples" :: "_law_sholds" :: "_law_sall_hold" :: "_law_sis_setting" :: "_law_sis_against" :: "_law_sthose" :: "_law_s_due" :: "_law_severy" :: "_law_sagainst" :: "_law_smixed" :: "_law_sdraw" :: "_law_ssetting" :: "_law_s_tables" :: "_law_sclaim" :: "_law_sbook" :: "_law_sopen" :: "holds" :: "failing" :: "need_few" :: "those" :: "tuples_of" :: "shows_needed" :: "_law_srefused" :: "_law_sthings" :: "MOST_LOOKED" :: "SpareError" :: "NoCut" :: "NoLadder" :: "NoInstead" :: "TooGreat" :: "TooMany" :: "NoTelling" :: "NoText" :: "NoRow" :: "NoBack" :: [])
abbrev dd : DefRec := HandSHeadRun.topDef R.prog 40
theorem p1 : opening R.prog = plainProg R.prog.main.scope.names := by kernel_rfl
theorem p2 (s) : fenceModules? R.prog s = some s := by kernel_rfl
theorem p3 : defOf qq R.name = some (dd, []) := by kernel_rfl
theorem p4 : R.prog.theDef R.name = some (dd.params, dd.body, dd.scope) := by kernel_rfl
theorem p5 : kwWritten? dd.params.kwonlyargs dd.params.kw_defaults = some [] := by kernel_rfl
theorem p6 : (!R.writes || R.records.isEmpty) = true := by rfl
theorem p8 : (chainsOk qq && opensWell R.prog && (frees R.toRowW && R.within.isEmpty)) = true := by decide +kernel
theorem p9 : R.prog.bare := ⟨rfl, rfl, rfl, rfl, rfl, by decide +kernel⟩
theorem p10 : R.toRowW.promised := by w_witness2
theorem p11 : dd.params.defaults = [] := by kernel_rfl
theorem p12 : dd.name = ("law" : PySem.Str) := by kernel_rfl
theorem top_law (h : R.wellSaid = true → R.Holds) : PySem.Challenge.rw_sparecut_k43_how_many_are_needed.Holds := by
  w_on; o_law
  exact h (by assumption)
theorem fin (call : WalkO qq ls (XL qq []) hk.says R.toRowW dd [] fun f vs => PySem.call f vs) : PySem.Challenge.rw_sparecut_k43_how_many_are_needed.Holds :=
  top_law fun said => HandSHeadRun.head_any ob_eq p1 p2 run p3 p4 p5 p6 said p8 p9 p10 call
end G3End
/-! G3: a layer over HandS. Data D (tuples and frozen lists inline), what is tracked by address (GH), their relation to HandS's V and Hp. -/
namespace G3
open PySem L2

/-- data: lst is a list that never changes any more -/
inductive D where
  | non | bl (b : Bool) | int (i : Int) | str (x : Str) | ty (n : String) | ref (a : Addr)
  | tup (ds : List D) | lst (ds : List D)
  /-- the script, or what is written -/
  | rl (ds : List D)
  /-- the global thing of a name (a def, a class); a caught exception of a class of one's own, with its field at -/
  | gl (x : Str) | exc (C : Str) (n : Option Int)
/-- what an expression gives: data, or a new list that nobody else holds -/
inductive R where
  | v (d : D) | tl (ds : List D)
def R.fz : R → D
  | .v d => d
  | .tl ds => .lst ds
@[simp] theorem R.fz_v (d : D) : (R.v d).fz = d := rfl
@[simp] theorem R.fz_tl (ds : List D) : (R.tl ds).fz = .lst ds := rfl
/-- what is tracked: a list, a dict, an instance -/
inductive DO where
  | lst (ds : List D) | dk (kvs : List (Key × D)) | dt (kvs : List (List Key × D)) | ins (C : Str) (fs : List (Str × D)) | dl (od : Obj) (r : List (List Key × V)) (kvs : List (List Key × D))
abbrev GH := Addr → Option DO
abbrev DEnv := List (Option D)
def gup (g : GH) (a : Addr) (o : DO) : GH := fun b => if b = a then some o else g b
@[simp] theorem gup_same {g : GH} {a : Addr} {o : DO} : gup g a o a = some o := by unfold gup; rw [if_pos rfl]
theorem gup_ne {g : GH} {a b : Addr} {o : DO} (h : b ≠ a) : gup g a o b = g b := by unfold gup; rw [if_neg h]
@[simp] theorem gup_gup {g : GH} {a : Addr} {o u : DO} : gup (gup g a o) a u = gup g a u := by funext b; unfold gup; split <;> rfl

/-- a list that can't change: the script, or a written one -/
def SqR (K : PySem.W.Frag) (H : Hp) (a : Addr) (vs : List V) : Prop :=
  (∃ o, H a = some (.frz o (.lst vs))) ∨
    ∃ (o : Obj) (its : Array Value) (n : Nat), K.lookup a = some o ∧ o.cls = .type "list" ∧ o.dict = none ∧ o.data = .seq its n ∧ its.size ≤ sizeLine ∧ Vals vs its.toList
/-- where the global thing of a name stands -/
def gaK (K : PySem.W.Frag) (x : Str) : Option Addr := match PySem.W.nsIn K mainGlobals x with
  | some (some (.ref a)) => some a
  | _ => none
/-- the object at a is an exception's, of this class and dict -/
def IsX (a : Addr) (cls : Value) (d : Option Addr) : Heap → Prop := fun h => ∃ o vs, h.get? a = some o ∧ o.cls = cls ∧ o.dict = d ∧ o.data = .fields vs
mutual
inductive Rep (K : PySem.W.Frag) (H : Hp) (g : GH) : V → D → Prop
  | non : Rep K H g .non .non
  | bl (b : Bool) : Rep K H g (.bl b) (.bl b)
  | int (i : Int) : Rep K H g (.int i) (.int i)
  | str (x : Str) : Rep K H g (.str x) (.str x)
  | ty (n : String) : Rep K H g (.ty n) (.ty n)
  | ref (a : Addr) : Rep K H g (.ref a) (.ref a)
  | tup {a : Addr} {vs : List V} {ds : List D} : H a = some (.tup vs) → Reps K H g vs ds → Rep K H g (.ref a) (.tup ds)
  | lst {a : Addr} {vs : List V} {ds : List D} : H a = some (.lst vs) → g a = none → Reps K H g vs ds → Rep K H g (.ref a) (.lst ds)
  | rl {a : Addr} {vs : List V} {ds : List D} : SqR K H a vs → Reps K H g vs ds → Rep K H g (.ref a) (.rl ds)
  | gl {a : Addr} {x : Str} : gaK K x = some a → Rep K H g (.ref a) (.gl x)
  | exc0 {a c : Addr} {C : Str} : gaK K C = some c → H a = some (.ext (IsX a (.ref c) none)) → g a = none → Rep K H g (.ref a) (.exc C none)
  | exc1 {a c d : Addr} {C : Str} {i : Int} : gaK K C = some c → H a = some (.ext (IsX a (.ref c) (some d))) → g a = none → H d = some (.xd [("at", .int i)]) → g d = none → Rep K H g (.ref a) (.exc C (some i))
inductive Reps (K : PySem.W.Frag) (H : Hp) (g : GH) : List V → List D → Prop
  | nil : Reps K H g [] []
  | cons {v : V} {vs : List V} {d : D} {ds : List D} : Rep K H g v d → Reps K H g vs ds → Reps K H g (v :: vs) (d :: ds)
end

inductive Fields (K : PySem.W.Frag) (H : Hp) (g : GH) : List (Str × V) → List (Str × D) → Prop
  | nil : Fields K H g [] []
  | cons {f : Str} {v : V} {d : D} {vs : List (Str × V)} {ds : List (Str × D)} : Rep K H g v d → Fields K H g vs ds → Fields K H g ((f, v) :: vs) ((f, d) :: ds)
/-- a dict's rows, keys of any kind -/
inductive DRep {κ : Type} (K : PySem.W.Frag) (H : Hp) (g : GH) : List (κ × V) → List (κ × D) → Prop
  | nil : DRep K H g [] []
  | cons {k : κ} {v : V} {d : D} {r : List (κ × V)} {s : List (κ × D)} : Rep K H g v d → DRep K H g r s → DRep K H g ((k, v) :: r) ((k, d) :: s)

inductive RepO (K : PySem.W.Frag) (H : Hp) (g : GH) : HO → DO → Prop
  | lst {vs : List V} {ds : List D} : Reps K H g vs ds → RepO K H g (.lst vs) (.lst ds)
  | dK {r : List (Key × V)} {s : List (Key × D)} : DRep K H g r s → RepO K H g (.dK r) (.dk s)
  | dT {r : List (List Key × V)} {s : List (List Key × D)} : DRep K H g r s → RepO K H g (.dT r) (.dt s)
  | dl {od : Obj} {r : List (List Key × V)} {s : List (List Key × D)} : DRep K H g r s → RepO K H g (.frz od (.dT r)) (.dl od r s)
  | ins {C : Str} {c dx : Addr} {r : List (Str × V)} {s : List (Str × D)} : gaK K C = some c → Fields K H g r s → RepO K H g (.ins c dx r) (.ins C s)

def RepG (K : PySem.W.Frag) (H : Hp) (g : GH) : Prop := ∀ a o, g a = some o → ∃ h, H a = some h ∧ RepO K H g h o

/-- what stands untracked stands on; nothing vanishes -/
structure Fr (H : Hp) (g : GH) (H' : Hp) (g' : GH) : Prop where
  keep : ∀ b o, H b = some o → g b = none → H' b = some o ∧ g' b = none
  dom : ∀ b, H b ≠ none → H' b ≠ none
theorem Fr.refl (H : Hp) (g : GH) : Fr H g H g := ⟨fun _ _ h k => ⟨h, k⟩, fun _ h => h⟩
theorem Fr.trans {H1 H2 H3 : Hp} {g1 g2 g3 : GH} (a : Fr H1 g1 H2 g2) (b : Fr H2 g2 H3 g3) : Fr H1 g1 H3 g3 :=
  ⟨fun c o h k => let ⟨h', k'⟩ := a.keep c o h k; b.keep c o h' k', fun c h => b.dom c (a.dom c h)⟩
theorem Fr.none_of {H H' : Hp} {g g' : GH} (f : Fr H g H' g') {b : Addr} (h : H' b = none) : H b = none := by
  cases e : H b with
  | none => rfl
  | some o => exact absurd h (f.dom b (by rw [e]; simp))

section
variable {K : PySem.W.Frag} {H H' : Hp} {g g' : GH}
theorem Reps.length : ∀ {vs : List V} {ds : List D}, Reps K H g vs ds → vs.length = ds.length
  | _, _, .nil => rfl
  | _, _, .cons _ t => by simp [Reps.length t]
mutual
/-- under a change that keeps tuples and untracked lists -/
theorem Rep.mono (ht : ∀ a vs, H a = some (HO.tup vs) → H' a = some (HO.tup vs)) (hz : ∀ a o vs, H a = some (.frz o (HO.lst vs)) → H' a = some (.frz o (HO.lst vs))) (hl : ∀ a u, H a = some u → g a = none → H' a = some u ∧ g' a = none) : ∀ {v : V} {d : D}, Rep K H g v d → Rep K H' g' v d
  | _, _, .non => .non
  | _, _, .bl b => .bl b
  | _, _, .int i => .int i
  | _, _, .str x => .str x
  | _, _, .ty n => .ty n
  | _, _, .ref a => .ref a
  | _, _, .tup h r => .tup (ht _ _ h) (Reps.mono ht hz hl r)
  | _, _, .lst h k r => .lst (hl _ _ h k).1 (hl _ _ h k).2 (Reps.mono ht hz hl r)
  | _, _, .rl h r => .rl (h.imp (fun ⟨o, z⟩ => ⟨o, hz _ _ _ z⟩) id) (Reps.mono ht hz hl r)
  | _, _, .gl h => .gl h
  | _, _, .exc0 c h k => .exc0 c (hl _ _ h k).1 (hl _ _ h k).2
  | _, _, .exc1 c h k h2 k2 => .exc1 c (hl _ _ h k).1 (hl _ _ h k).2 (hl _ _ h2 k2).1 (hl _ _ h2 k2).2
theorem Reps.mono (ht : ∀ a vs, H a = some (HO.tup vs) → H' a = some (HO.tup vs)) (hz : ∀ a o vs, H a = some (.frz o (HO.lst vs)) → H' a = some (.frz o (HO.lst vs))) (hl : ∀ a u, H a = some u → g a = none → H' a = some u ∧ g' a = none) : ∀ {vs : List V} {ds : List D}, Reps K H g vs ds → Reps K H' g' vs ds
  | _, _, .nil => .nil
  | _, _, .cons h r => .cons (Rep.mono ht hz hl h) (Reps.mono ht hz hl r)
end
theorem RepG.nt (G : RepG K H g) {a : Addr} {u : HO} (h : H a = some u) (k : ∀ o, ¬ RepO K H g u o) : g a = none := by
  cases e : g a with
  | none => rfl
  | some o =>
    obtain ⟨u', h', r⟩ := G a o e
    rw [h] at h'; cases h'
    exact absurd r (k o)
theorem Fr.sqT (G : RepG K H g) (f : Fr H g H' g') {a : Addr} {vs : List V} (h : SqT K H a vs) : SqT K H' a vs := by
  rcases h with (h | ⟨o, h⟩) | h
  · exact .inl (.inl (f.keep a _ h (G.nt h fun o r => by cases r)).1)
  · exact .inl (.inr ⟨o, (f.keep a _ h (G.nt h fun o r => by cases r)).1⟩)
  · exact .inr h
theorem Fr.frz (G : RepG K H g) (f : Fr H g H' g') {a : Addr} {o : Obj} {u : List V} (h : H a = some (.frz o (.lst u))) : H' a = some (.frz o (.lst u)) := (f.keep a _ h (G.nt h fun o r => by cases r)).1
theorem Rep.fr (G : RepG K H g) (f : Fr H g H' g') {v : V} {d : D} (r : Rep K H g v d) : Rep K H' g' v d :=
  r.mono (fun _ _ h => (f.keep _ _ h (G.nt h fun o r => by cases r)).1) (fun _ _ _ h => f.frz G h) fun _ _ h k => f.keep _ _ h k
theorem Reps.fr (G : RepG K H g) (f : Fr H g H' g') {v : List V} {d : List D} (r : Reps K H g v d) : Reps K H' g' v d :=
  r.mono (fun _ _ h => (f.keep _ _ h (G.nt h fun o r => by cases r)).1) (fun _ _ _ h => f.frz G h) fun _ _ h k => f.keep _ _ h k
theorem Fields.mono (h : ∀ v d, Rep K H g v d → Rep K H' g' v d) : ∀ {r : List (Str × V)} {s : List (Str × D)}, Fields K H g r s → Fields K H' g' r s
  | _, _, .nil => .nil
  | _, _, .cons x t => .cons (h _ _ x) (Fields.mono h t)
theorem DRep.mono {κ : Type} (h : ∀ v d, Rep K H g v d → Rep K H' g' v d) : ∀ {r : List (κ × V)} {s : List (κ × D)}, DRep K H g r s → DRep K H' g' r s
  | _, _, .nil => .nil
  | _, _, .cons x t => .cons (h _ _ x) (DRep.mono h t)
theorem Reps.monoR (h : ∀ v d, Rep K H g v d → Rep K H' g' v d) : ∀ {r : List V} {s : List D}, Reps K H g r s → Reps K H' g' r s
  | _, _, .nil => .nil
  | _, _, .cons x t => .cons (h _ _ x) (Reps.monoR h t)
theorem RepO.mono (h : ∀ v d, Rep K H g v d → Rep K H' g' v d) {u : HO} {o : DO} : RepO K H g u o → RepO K H' g' u o
  | .lst r => .lst (r.monoR h)
  | .dK r => .dK (r.mono h)
  | .dT r => .dT (r.mono h)
  | .dl r => .dl (r.mono h)
  | .ins c r => .ins c (r.mono h)

/-- a new object, untracked -/
theorem Fr.laid {p : Addr} {u : HO} (hp : H p = none) (G : RepG K H g) : Fr H g (upd H p u) g ∧ RepG K (upd H p u) g ∧ g p = none := by
  have f : Fr H g (upd H p u) g := ⟨fun b o h k => ⟨by rw [upd_ne (ne_of_none h hp)]; exact h, k⟩, fun b h => by
    unfold upd; split
    · simp
    · exact h⟩
  refine ⟨f, fun a o e => ?_, ?_⟩
  · obtain ⟨w, hw, r⟩ := G a o e
    exact ⟨w, by rw [upd_ne (ne_of_none hw hp)]; exact hw, r.mono fun _ _ x => x.fr G f⟩
  · cases e : g p with
    | none => rfl
    | some o =>
      obtain ⟨w, hw, _⟩ := G p o e
      rw [hp] at hw; cases hw
/-- one that begins to be tracked -/
theorem RepG.track {p : Addr} {u : HO} {o : DO} {H0 : Hp} (hp : H p = some u) (h0 : ∀ b w, H0 b = some w → b ≠ p ∧ H b = some w) (G : RepG K H0 g) (r : RepO K H0 g u o) : RepG K H (gup g p o) := by
  have m : ∀ v d, Rep K H0 g v d → Rep K H (gup g p o) v d := fun v d x => by
    have hn : ∀ b w, H0 b = some w → g b = none → gup g p o b = none := fun b w h k => by rw [gup_ne (h0 b w h).1]; exact k
    refine x.mono (fun a vs h => (h0 _ _ h).2) (fun a o u h => (h0 _ _ h).2) fun a vs h k => ?_
    · exact ⟨(h0 _ _ h).2, hn _ _ h k⟩
  intro a w e
  by_cases ha : a = p
  · subst ha
    rw [gup_same] at e; cases e
    exact ⟨u, hp, r.mono m⟩
  · rw [gup_ne ha] at e
    obtain ⟨z, hz, q⟩ := G a w e
    exact ⟨z, (h0 _ _ hz).2, q.mono m⟩
/-- a tracked object changes -/
theorem Fr.write {p : Addr} {u u' : HO} {o o' : DO} (hp : H p = some u) (gp : g p = some o) (hu : ∀ vs, u ≠ .tup vs) (hu2 : ∀ ob w, u ≠ .frz ob (.lst w)) (G : RepG K H g) (r : RepO K H g u' o') : Fr H g (upd H p u') (gup g p o') ∧ RepG K (upd H p u') (gup g p o') := by
  have f : Fr H g (upd H p u') (gup g p o') := ⟨fun b w h k => by
    have hb : b ≠ p := fun e => by rw [e, gp] at k; cases k
    exact ⟨by rw [upd_ne hb]; exact h, by rw [gup_ne hb]; exact k⟩, fun b h => by
    unfold upd; split
    · simp
    · exact h⟩
  refine ⟨f, fun a w e => ?_⟩
  by_cases ha : a = p
  · subst ha
    rw [gup_same] at e; cases e
    exact ⟨u', upd_same, r.mono fun _ _ x => x.fr G f⟩
  · rw [gup_ne ha] at e
    obtain ⟨z, hz, q⟩ := G a w e
    exact ⟨z, by rw [upd_ne ha]; exact hz, q.mono fun _ _ x => x.fr G f⟩

/-- the slots -/
structure RepS (K : PySem.W.Frag) (H : Hp) (g : GH) (σ : L2.St) (ρ : DEnv) : Prop where
  len : σ.length = ρ.length
  at_ : ∀ (i : Nat) (d : D), ρ[i]? = some (some d) → ∃ v, σ[i]? = some (some v) ∧ Rep K H g v d
theorem RepS.fr {σ : L2.St} {ρ : DEnv} (G : RepG K H g) (f : Fr H g H' g') (r : RepS K H g σ ρ) : RepS K H' g' σ ρ :=
  ⟨r.len, fun i d e => let ⟨v, h, q⟩ := r.at_ i d e; ⟨v, h, q.fr G f⟩⟩
theorem RepS.set {σ : L2.St} {ρ : DEnv} {i : Nat} {v : V} {d : D} (r : RepS K H g σ ρ) (q : Rep K H g v d) : RepS K H g (σ.set i (some v)) (ρ.set i (some d)) := by
  refine ⟨by simp [r.len], fun j e h => ?_⟩
  by_cases hj : i = j
  · subst hj
    by_cases hi : i < ρ.length
    · rw [List.getElem?_set_self hi] at h
      cases h
      exact ⟨v, List.getElem?_set_self (by rw [r.len]; exact hi), q⟩
    · rw [List.getElem?_eq_none (by simpa using hi)] at h; cases h
  · rw [List.getElem?_set_ne hj] at h
    obtain ⟨w, hw, q'⟩ := r.at_ j e h
    exact ⟨w, by rw [List.getElem?_set_ne hj]; exact hw, q'⟩
theorem RepS.forget {σ : L2.St} {ρ : DEnv} {i : Nat} {o : Option V} (r : RepS K H g σ ρ) : RepS K H g (σ.set i o) (ρ.set i none) := by
  refine ⟨by simp [r.len], fun j e h => ?_⟩
  by_cases hj : i = j
  · subst hj
    by_cases hi : i < ρ.length
    · rw [List.getElem?_set_self hi] at h; cases h
    · rw [List.getElem?_eq_none (by simpa using hi)] at h; cases h
  · rw [List.getElem?_set_ne hj] at h
    obtain ⟨w, hw, q'⟩ := r.at_ j e h
    exact ⟨w, by rw [List.getElem?_set_ne hj]; exact hw, q'⟩
/-- the heap but for some objects -/
def hide (H : Hp) (B : List Addr) : Hp := fun b => if b ∈ B then none else H b
theorem hide_in {H : Hp} {B : List Addr} {b : Addr} (h : b ∈ B) : hide H B b = none := if_pos h
theorem hide_out {H : Hp} {B : List Addr} {b : Addr} (h : b ∉ B) : hide H B b = H b := if_neg h
theorem of_hide {H : Hp} {B : List Addr} {b : Addr} {o : HO} (h : hide H B b = some o) : H b = some o ∧ b ∉ B := by
  by_cases m : b ∈ B
  · rw [hide_in m] at h; cases h
  · rw [hide_out m] at h; exact ⟨h, m⟩
theorem hide_upd {H : Hp} {B : List Addr} {p : Addr} {o : HO} (m : p ∉ B) : hide (upd H p o) B = upd (hide H B) p o := by
  funext b
  by_cases hb : b = p
  · subst hb; rw [hide_out m, upd_same, upd_same]
  · by_cases hm : b ∈ B
    · rw [hide_in hm, upd_ne hb, hide_in hm]
    · rw [hide_out hm, upd_ne hb, upd_ne hb, hide_out hm]
theorem sqT_un {B : List Addr} {a : Addr} {vs : List V} (h : SqT K (hide H B) a vs) : SqT K H a vs := by
  rcases h with (h | ⟨o, h⟩) | h
  · exact .inl (.inl (of_hide h).1)
  · exact .inl (.inr ⟨o, (of_hide h).1⟩)
  · exact .inr h
theorem Rep.un {B : List Addr} {v : V} {d : D} (r : Rep K (hide H B) g v d) : Rep K H g v d := r.mono (fun _ _ h => (of_hide h).1) (fun _ _ _ h => (of_hide h).1) fun _ _ h k => ⟨(of_hide h).1, k⟩
theorem Reps.un {B : List Addr} {v : List V} {d : List D} (r : Reps K (hide H B) g v d) : Reps K H g v d := r.mono (fun _ _ h => (of_hide h).1) (fun _ _ _ h => (of_hide h).1) fun _ _ h k => ⟨(of_hide h).1, k⟩
/-- what is seen: all but the objects of B, which stand untracked -/
structure Vw (K : PySem.W.Frag) (B : List Addr) (H : Hp) (g : GH) : Prop where
  dom : ∀ b ∈ B, ∃ vs, H b = some (.lst vs)
  rg : RepG K (hide H B) g
theorem Vw.un {B : List Addr} (w : Vw K B H g) : RepG K H g := fun a o e =>
  let ⟨h, hh, r⟩ := w.rg a o e
  ⟨h, (of_hide hh).1, r.mono fun _ _ x => x.un⟩
theorem Vw.new {B : List Addr} (w : Vw K B H g) {p : Addr} (h : H p = none) : p ∉ B := fun m => by
  obtain ⟨vs, e⟩ := w.dom p m
  rw [h] at e; cases e
theorem Vw.hn {B : List Addr} (w : Vw K B H g) {p : Addr} (h : H p = none) : hide H B p = none := by rw [hide_out (w.new h)]; exact h
theorem Fr.hd (f : Fr H g H' g') (B : List Addr) : Fr (hide H B) g (hide H' B) g' :=
  ⟨fun b o h k => let ⟨h1, h2⟩ := of_hide h; let ⟨h3, h4⟩ := f.keep b o h1 k; ⟨by rw [hide_out h2]; exact h3, h4⟩, fun b h => by
    by_cases m : b ∈ B
    · exact absurd (hide_in m) h
    · rw [hide_out m] at h ⊢; exact f.dom b h⟩
theorem Rep.fv {B : List Addr} (w : Vw K B H g) (f : Fr H g H' g') {v : V} {d : D} (r : Rep K (hide H B) g v d) : Rep K (hide H' B) g' v d := r.fr w.rg (f.hd B)
theorem Reps.fv {B : List Addr} (w : Vw K B H g) (f : Fr H g H' g') {v : List V} {d : List D} (r : Reps K (hide H B) g v d) : Reps K (hide H' B) g' v d := r.fr w.rg (f.hd B)
theorem RepS.fv {B : List Addr} (w : Vw K B H g) (f : Fr H g H' g') {σ : L2.St} {ρ : DEnv} (r : RepS K (hide H B) g σ ρ) : RepS K (hide H' B) g' σ ρ := r.fr w.rg (f.hd B)
theorem Fr.laidV {B : List Addr} {p : Addr} {u : HO} (hp : H p = none) (w : Vw K B H g) : Fr H g (upd H p u) g ∧ Vw K B (upd H p u) g ∧ g p = none := by
  obtain ⟨_, rg', gp⟩ := Fr.laid (u := u) (w.hn hp) w.rg
  refine ⟨⟨fun b o h k => ⟨by rw [upd_ne (ne_of_none h hp)]; exact h, k⟩, fun b h => ?_⟩, ⟨fun b m => ?_, by rw [hide_upd (w.new hp)]; exact rg'⟩, gp⟩
  · unfold upd; split
    · simp
    · exact h
  · obtain ⟨vs, e⟩ := w.dom b m
    exact ⟨vs, by rw [upd_ne (ne_of_none e hp)]; exact e⟩
theorem Fr.writeV {B : List Addr} {p : Addr} {u u' : HO} {o o' : DO} (hp : H p = some u) (gp : g p = some o) (hu : ∀ vs, u ≠ .tup vs) (hu2 : ∀ ob w, u ≠ .frz ob (.lst w)) (w : Vw K B H g) (r : RepO K (hide H B) g u' o') :
    Fr H g (upd H p u') (gup g p o') ∧ Vw K B (upd H p u') (gup g p o') := by
  have hp' : hide H B p = some u := by
    obtain ⟨z, hz, _⟩ := w.rg p o gp
    rw [hz]
    rw [(of_hide hz).1] at hp; exact hp
  obtain ⟨_, rg'⟩ := Fr.write (u' := u') (o' := o') hp' gp hu hu2 w.rg r
  refine ⟨⟨fun b v h k => ?_, fun b h => ?_⟩, ⟨fun b m => ?_, by rw [hide_upd (of_hide hp').2]; exact rg'⟩⟩
  · have hb : b ≠ p := fun e => by rw [e, gp] at k; cases k
    exact ⟨by rw [upd_ne hb]; exact h, by rw [gup_ne hb]; exact k⟩
  · unfold upd; split
    · simp
    · exact h
  · obtain ⟨vs, e⟩ := w.dom b m
    exact ⟨vs, by rw [upd_ne (fun z => (of_hide hp').2 (by rw [← z]; exact m))]; exact e⟩
def wipeD (ρ : DEnv) : List Nat → DEnv
  | [] => ρ
  | v :: vs => (wipeD ρ vs).set v none
theorem RepS.wipe {σ : L2.St} {ρ : DEnv} (r : RepS K H g σ ρ) : ∀ vs : List Nat, RepS K H g (L2.wipe σ vs) (wipeD ρ vs)
  | [] => r
  | v :: vs => (RepS.wipe r vs).forget
end
end G3
/-! G3: readings over data, lifted to HandS's; the rules for expressions -/
namespace G3
open PySem L2

abbrev QK := R → GH → Prop
/-- an exception of a class of the program, with its field at -/
structure Exn where
  C : Str
  n : Option Int
abbrev XKD := Exn → GH → Prop
abbrev TD := DEnv → GH → QK → XKD → Prop
abbrev TTD := DEnv → GH → (Bool → GH → Prop) → XKD → Prop
abbrev TAD := DEnv → GH → (List D → GH → Prop) → XKD → Prop

def Fresh (K : PySem.W.Frag) (B : List Addr) (H H' : Hp) (g' : GH) (v : V) (d : R) : Prop :=
  ∀ ds, d = .tl ds → ∃ a vs H0, v = .ref a ∧ H a = none ∧ H' a = some (.lst vs) ∧ (∀ b w, H0 b = some w → b ≠ a ∧ hide H' B b = some w) ∧ RepG K H0 g' ∧ Reps K H0 g' vs ds
def Cont (K : PySem.W.Frag) (B : List Addr) (H : Hp) (g : GH) (Q0 : QK) (Q : VK) : Prop :=
  ∀ d g' v H', Q0 d g' → Rep K (hide H' B) g' v d.fz → Vw K B H' g' → Fr H g H' g' → Fresh K B H H' g' v d → Q v H'
inductive ExOk (K : PySem.W.Frag) (H : Hp) (g : GH) : Exn → Value → Option Addr → Prop
  | plain {C : Str} {c : Addr} : gaK K C = some c → ExOk K H g ⟨C, none⟩ (.ref c) none
  | dict {C : Str} {c d : Addr} {i : Int} : gaK K C = some c → H d = some (.xd [("at", .int i)]) → g d = none → ExOk K H g ⟨C, some i⟩ (.ref c) (some d)
def XCont (K : PySem.W.Frag) (B : List Addr) (H : Hp) (g : GH) (W0 : XKD) (E : XK) : Prop :=
  ∀ x g' cls d H', W0 x g' → ExOk K (hide H' B) g' x cls d → Vw K B H' g' → Fr H g H' g' → E cls d H'
def ContB (K : PySem.W.Frag) (B : List Addr) (H : Hp) (g : GH) (Q0 : Bool → GH → Prop) (Q : Bool → Hp → Prop) : Prop :=
  ∀ b g' H', Q0 b g' → Vw K B H' g' → Fr H g H' g' → Q b H'
def ContA (K : PySem.W.Frag) (B : List Addr) (H : Hp) (g : GH) (Q0 : List D → GH → Prop) (Q : List V → Hp → Prop) : Prop :=
  ∀ ds g' vs H', Q0 ds g' → Reps K (hide H' B) g' vs ds → Vw K B H' g' → Fr H g H' g' → Q vs H'
def LE (K : PySem.W.Frag) (E : L2.St → XK) (t : TD) : TE := fun σ H Q => ∃ B ρ g Q0 W0, RepS K (hide H B) g σ ρ ∧ Vw K B H g ∧ t ρ g Q0 W0 ∧ Cont K B H g Q0 Q ∧ XCont K B H g W0 (E σ)
def LT (K : PySem.W.Frag) (E : L2.St → XK) (t : TTD) : TT := fun σ H Q => ∃ B ρ g Q0 W0, RepS K (hide H B) g σ ρ ∧ Vw K B H g ∧ t ρ g Q0 W0 ∧ ContB K B H g Q0 Q ∧ XCont K B H g W0 (E σ)
def LA (K : PySem.W.Frag) (E : L2.St → XK) (t : TAD) : TA := fun σ H Q => ∃ B ρ g Q0 W0, RepS K (hide H B) g σ ρ ∧ Vw K B H g ∧ t ρ g Q0 W0 ∧ ContA K B H g Q0 Q ∧ XCont K B H g W0 (E σ)

section
variable {K : PySem.W.Frag} {B : List Addr} {H H1 H2 : Hp} {g g1 g2 : GH} {Q0 : QK} {Q : VK} {W0 : XKD} {E : XK}
theorem Fresh.after (f : Fr H g H1 g1) {v : V} {d : R} (h : Fresh K B H1 H2 g2 v d) : Fresh K B H H2 g2 v d := fun ds e =>
  let ⟨a, vs, H0, e1, e2, r⟩ := h ds e
  ⟨a, vs, H0, e1, f.none_of e2, r⟩
theorem Cont.after (f : Fr H g H1 g1) (c : Cont K B H g Q0 Q) : Cont K B H1 g1 Q0 Q := fun d g' v H' q r rg f' fr => c d g' v H' q r rg (f.trans f') (fr.after f)
theorem XCont.after (f : Fr H g H1 g1) (c : XCont K B H g W0 E) : XCont K B H1 g1 W0 E := fun x g' cls d H' q r rg f' => c x g' cls d H' q r rg (f.trans f')
theorem ContB.after {Q0 : Bool → GH → Prop} {Q : Bool → Hp → Prop} (f : Fr H g H1 g1) (c : ContB K B H g Q0 Q) : ContB K B H1 g1 Q0 Q := fun d g' H' q rg f' => c d g' H' q rg (f.trans f')
theorem ContA.after {Q0 : List D → GH → Prop} {Q : List V → Hp → Prop} (f : Fr H g H1 g1) (c : ContA K B H g Q0 Q) : ContA K B H1 g1 Q0 Q := fun d g' v H' q r rg f' => c d g' v H' q r rg (f.trans f')
/-- a value that is no new list -/
theorem Fresh.no {v : V} {d : D} : Fresh K B H H1 g v (.v d) := fun ds e => nomatch e
/-- the end with the heap as it stands -/
theorem Cont.here {d : D} {v : V} (c : Cont K B H g Q0 Q) (q : Q0 (.v d) g) (r : Rep K (hide H B) g v d) (rg : Vw K B H g) : Q v H :=
  c (.v d) g v H q r rg (Fr.refl H g) .no
/-- the end with a new list -/
theorem Cont.newL {ds : List D} {vs : List V} (c : Cont K B H g Q0 Q) (q : Q0 (.tl ds) g) (r : Reps K (hide H B) g vs ds) (w : Vw K B H g) (p : Addr) (hp : H p = none) : Q (.ref p) (upd H p (.lst vs)) := by
  obtain ⟨f, w', gp⟩ := Fr.laidV (u := .lst vs) hp w
  exact c (.tl ds) g _ _ q (.lst (by rw [hide_out (w.new hp)]; exact upd_same) gp (r.fv w f)) w' f fun ds' e => by
    cases e
    exact ⟨p, vs, hide H B, rfl, hp, upd_same, fun b u h => ⟨ne_of_none h (w.hn hp), by rw [hide_upd (w.new hp), upd_ne (ne_of_none h (w.hn hp))]; exact h⟩, w.rg, r⟩
/-- the end with a new tuple -/
theorem Cont.newT {ds : List D} {vs : List V} (c : Cont K B H g Q0 Q) (q : Q0 (.v (.tup ds)) g) (r : Reps K (hide H B) g vs ds) (w : Vw K B H g) (p : Addr) (hp : H p = none) : Q (.ref p) (upd H p (.tup vs)) := by
  obtain ⟨f, w', gp⟩ := Fr.laidV (u := .tup vs) hp w
  exact c (.v (.tup ds)) g _ _ q (.tup (by rw [hide_out (w.new hp)]; exact upd_same) (r.fv w f)) w' f .no
end

/-! ### operators -/
def R2Ok (K : PySem.W.Frag) (f : R → R → GH → QK → Prop) (r : R2) : Prop :=
  ∀ x y (d e : R) B H g Q0 Q, Rep K (hide H B) g x d.fz → Rep K (hide H B) g y e.fz → Vw K B H g → f d e g Q0 → Cont K B H g Q0 Q → r x y H Q
def R1Ok (K : PySem.W.Frag) (f : R → GH → QK → Prop) (r : V → Hp → VK → Prop) : Prop :=
  ∀ x (d : R) B H g Q0 Q, Rep K (hide H B) g x d.fz → Vw K B H g → f d g Q0 → Cont K B H g Q0 Q → r x H Q
def RNOk (K : PySem.W.Frag) (f : List D → GH → QK → Prop) (r : List V → Hp → VK → Prop) : Prop :=
  ∀ xs ds B H g Q0 Q, Reps K (hide H B) g xs ds → Vw K B H g → f ds g Q0 → Cont K B H g Q0 Q → r xs H Q
def wBin (f : R → R → GH → QK → Prop) (ta tb : TD) : TD := fun ρ g Q W => ta ρ g (fun x g1 => tb ρ g1 (fun y g2 => f x y g2 Q) W) W
def wUn (f : R → GH → QK → Prop) (ta : TD) : TD := fun ρ g Q W => ta ρ g (fun x g1 => f x g1 Q) W
def wC (d : D) : TD := fun _ g Q _ => Q (.v d) g
def wVar (i : Nat) : TD := fun ρ g Q _ => match ρ[i]? with | some (some d) => Q (.v d) g | _ => False
def wTest (t : TD) : TTD := fun ρ g Q W => t ρ g (fun d g1 => match d with | .v (.bl b) => Q b g1 | _ => False) W
def wAnd (ta tb : TD) : TD := fun ρ g Q W => ta ρ g (fun x g1 => match x with | .v (.bl c) => if c = true then tb ρ g1 Q W else Q (.v (.bl false)) g1 | _ => False) W
def wOr (ta tb : TD) : TD := fun ρ g Q W => ta ρ g (fun x g1 => match x with | .v (.bl c) => if c = true then Q (.v (.bl true)) g1 else tb ρ g1 Q W | _ => False) W
def wNot (ta : TD) : TD := fun ρ g Q W => ta ρ g (fun x g1 => match x with | .v (.bl c) => Q (.v (.bl (!c))) g1 | _ => False) W
def wIte (tc ta tb : TD) : TD := fun ρ g Q W => tc ρ g (fun x g1 => match x with | .v (.bl c) => if c = true then ta ρ g1 Q W else tb ρ g1 Q W | _ => False) W
def wNil : TAD := fun _ g Q _ => Q [] g
def wCons (ta : TD) (tr : TAD) : TAD := fun ρ g Q W => ta ρ g (fun x g1 => tr ρ g1 (fun xs g2 => Q (x.fz :: xs) g2) W) W
def wArgs (t : TAD) (f : List D → GH → QK → Prop) : TD := fun ρ g Q W => t ρ g (fun ds g1 => f ds g1 Q) W

section
variable {X : Cx} {e a b c : Expr} {es : List Expr} {ta tb tc : TD} {tr : TAD} {E : L2.St → XK}
theorem PE.of {t t' : TE} (h : PE X e t') (i : ∀ σ H Q, t σ H Q → t' σ H Q) : PE X e t := ⟨fun pins s σ H Q I q => h.run pins s σ H Q I (i σ H Q q)⟩
theorem PT.of {t t' : TT} (h : PT X e t') (i : ∀ σ H Q, t σ H Q → t' σ H Q) : PT X e t := ⟨fun pins s σ H Q I q => h.run pins s σ H Q I (i σ H Q q)⟩
theorem PW.of {t t' : TT} (h : PW X e t') (i : ∀ σ H Q, t σ H Q → t' σ H Q) : PW X e t := ⟨fun w pins s σ H Q I q => h.run w pins s σ H Q I (i σ H Q q)⟩
theorem PA.of {t t' : TA} (h : PA X es t') (i : ∀ σ H Q, t σ H Q → t' σ H Q) : PA X es t := ⟨fun pos pins s σ H Q I q => h.run pos pins s σ H Q I (i σ H Q q)⟩

theorem q_bin {f : R → R → GH → QK → Prop} {r : R2} (hr : R2Ok X.K f r) (h : PE X e (tOp r (LE X.K E ta) (LE X.K E tb))) : PE X e (LE X.K E (wBin f ta tb)) :=
  PE.of h fun σ H Q ⟨B, ρ, g, Q0, W0, rs, rg, t, c, xc⟩ =>
    ⟨B, ρ, g, _, W0, rs, rg, t, fun d g1 x H1 hb rd rg1 f1 _ => ⟨B, ρ, g1, _, W0, rs.fv rg f1, rg1, hb, fun e g2 y H2 hf re rg2 f2 _ => hr x y d e B H2 g2 Q0 Q (rd.fv rg1 f2) re rg2 hf (c.after (f1.trans f2)), xc.after f1⟩, xc⟩
theorem q_un {f : R → GH → QK → Prop} {r : V → Hp → VK → Prop} (hr : R1Ok X.K f r) (h : PE X e (tUn r (LE X.K E ta))) : PE X e (LE X.K E (wUn f ta)) :=
  PE.of h fun σ H Q ⟨B, ρ, g, Q0, W0, rs, rg, t, c, xc⟩ =>
    ⟨B, ρ, g, _, W0, rs, rg, t, fun d g1 x H1 hf rd rg1 f1 _ => hr x d B H1 g1 Q0 Q rd rg1 hf (c.after f1), xc⟩
theorem q_args {f : List D → GH → QK → Prop} {r : List V → Hp → VK → Prop} (hr : RNOk X.K f r) (h : PE X e (tCB r (LA X.K E tr))) : PE X e (LE X.K E (wArgs tr f)) :=
  PE.of h fun σ H Q ⟨B, ρ, g, Q0, W0, rs, rg, t, c, xc⟩ =>
    ⟨B, ρ, g, _, W0, rs, rg, t, fun ds g1 xs H1 hf rd rg1 f1 => hr xs ds B H1 g1 Q0 Q rd rg1 hf (c.after f1), xc⟩
theorem q_c {v : V} {d : D} (h : PE X e (tC v)) (r : ∀ H g, Rep X.K H g v d) : PE X e (LE X.K E (wC d)) :=
  PE.of h fun σ H Q ⟨B, ρ, g, Q0, W0, rs, rg, t, c, xc⟩ => c.here t (r _ g) rg
theorem q_var {i : Nat} (h : PE X e (tVar i)) : PE X e (LE X.K E (wVar i)) :=
  PE.of h fun σ H Q ⟨B, ρ, g, Q0, W0, rs, rg, t, c, xc⟩ => by
    have t' : (match ρ[i]? with | some (some d) => Q0 (.v d) g | _ => False) := t
    split at t'
    · rename_i d hd
      obtain ⟨v, hv, r⟩ := rs.at_ i d hd
      exact ⟨v, hv, c.here t' r rg⟩
    · exact t'.elim
theorem q_nil : PA X [] (LA X.K E wNil) := PA.of pa_nil fun σ H Q ⟨B, ρ, g, Q0, W0, rs, rg, t, c, xc⟩ => c [] g [] H t .nil rg (Fr.refl H g)
theorem q_cons (h : PA X (e :: es) (tCons (LE X.K E ta) (LA X.K E tr))) : PA X (e :: es) (LA X.K E (wCons ta tr)) :=
  PA.of h fun σ H Q ⟨B, ρ, g, Q0, W0, rs, rg, t, c, xc⟩ =>
    ⟨B, ρ, g, _, W0, rs, rg, t, fun d g1 x H1 hb rd rg1 f1 _ => ⟨B, ρ, g1, _, W0, rs.fv rg f1, rg1, hb, fun ds g2 ys H2 hf re rg2 f2 => c _ g2 _ H2 hf (.cons (rd.fv rg1 f2) re) rg2 (f1.trans f2), xc.after f1⟩, xc⟩
theorem q_tup {x1 : Nat} {pos : Pos} (h : PA X es (LA X.K E tr)) : PE X (.Tuple es x1 pos) (LE X.K E (wArgs tr fun ds g Q => ds.length ≤ sizeLine ∧ Q (.v (.tup ds)) g)) :=
  PE.of (pe_tup h) fun σ H Q ⟨B, ρ, g, Q0, W0, rs, rg, t, c, xc⟩ =>
    ⟨B, ρ, g, _, W0, rs, rg, t, fun ds g1 xs H1 hf rd rg1 f1 => ⟨by rw [rd.length]; exact hf.1, fun p hp => (c.after f1).newT hf.2 rd rg1 p hp⟩, xc⟩
theorem q_lst {pos : Pos} (h : PA X es (LA X.K E tr)) : PE X (.List es pos) (LE X.K E (wArgs tr fun ds g Q => ds.length ≤ sizeLine ∧ Q (.tl ds) g)) :=
  PE.of (pe_lst h) fun σ H Q ⟨B, ρ, g, Q0, W0, rs, rg, t, c, xc⟩ =>
    ⟨B, ρ, g, _, W0, rs, rg, t, fun ds g1 xs H1 hf rd rg1 f1 => ⟨by rw [rd.length]; exact hf.1, fun p hp => (c.after f1).newL hf.2 rd rg1 p hp⟩, xc⟩

/-! tests -/
theorem bl_of {K : PySem.W.Frag} {H : Hp} {g : GH} {v : V} {b : Bool} (r : Rep K H g v (.bl b)) : v = .bl b := by cases r; rfl
theorem q_val (h : PT X e (tB (LE X.K E ta))) : PT X e (LT X.K E (wTest ta)) :=
  PT.of h fun σ H Q ⟨B, ρ, g, Q0, W0, rs, rg, t, c, xc⟩ =>
    ⟨B, ρ, g, _, W0, rs, rg, t, fun d g1 x H1 hb rd rg1 f1 _ => by
      match d, rd, hb with
      | .v (.bl b), rd, hb => exact ⟨b, bl_of rd, c b g1 H1 hb rg1 f1⟩
      | .v .non, _, hb | .v (.int _), _, hb | .v (.str _), _, hb | .v (.ty _), _, hb | .v (.ref _), _, hb | .v (.tup _), _, hb | .v (.lst _), _, hb | .v (.rl _), _, hb | .tl _, _, hb => exact hb.elim, xc⟩
theorem q_wAnd (h : PW X e (tAnd (LT X.K E (wTest ta)) (LT X.K E (wTest tb)))) : PW X e (LT X.K E (wTest (wAnd ta tb))) :=
  PW.of h fun σ H Q ⟨B, ρ, g, Q0, W0, rs, rg, t, c, xc⟩ => by
    refine ⟨B, ρ, g, fun b g1 => if b = true then wTest tb ρ g1 Q0 W0 else Q0 false g1, W0, rs, rg, ?_, fun b g1 H1 hb rg1 f1 => ?_, xc⟩
    · exact t
    · cases b with
      | true => exact ⟨B, ρ, g1, Q0, W0, rs.fv rg f1, rg1, hb, c.after f1, xc.after f1⟩
      | false => exact c false g1 H1 hb rg1 f1
theorem q_wOr (h : PW X e (tOr (LT X.K E (wTest ta)) (LT X.K E (wTest tb)))) : PW X e (LT X.K E (wTest (wOr ta tb))) :=
  PW.of h fun σ H Q ⟨B, ρ, g, Q0, W0, rs, rg, t, c, xc⟩ => by
    refine ⟨B, ρ, g, fun b g1 => if b = true then Q0 true g1 else wTest tb ρ g1 Q0 W0, W0, rs, rg, ?_, fun b g1 H1 hb rg1 f1 => ?_, xc⟩
    · exact t
    · cases b with
      | true => exact c true g1 H1 hb rg1 f1
      | false => exact ⟨B, ρ, g1, Q0, W0, rs.fv rg f1, rg1, hb, c.after f1, xc.after f1⟩
theorem q_tNot (h : PT X e (tNot (LT X.K E (wTest ta)))) : PT X e (LT X.K E (wTest (wNot ta))) :=
  PT.of h fun σ H Q ⟨B, ρ, g, Q0, W0, rs, rg, t, c, xc⟩ => by
    refine ⟨B, ρ, g, fun b g1 => Q0 (!b) g1, W0, rs, rg, ?_, fun b g1 H1 hb rg1 f1 => c _ g1 H1 hb rg1 f1, xc⟩
    exact t
theorem q_and (h : PE X e (tAndV (LE X.K E ta) (LE X.K E tb))) : PE X e (LE X.K E (wAnd ta tb)) :=
  PE.of h fun σ H Q ⟨B, ρ, g, Q0, W0, rs, rg, t, c, xc⟩ =>
    ⟨B, ρ, g, _, W0, rs, rg, t, fun d g1 x H1 hb rd rg1 f1 _ => by
      match d, rd, hb with
      | .v (.bl b), rd, hb =>
        refine ⟨b, bl_of rd, ?_⟩
        cases b with
        | true => exact ⟨B, ρ, g1, Q0, W0, rs.fv rg f1, rg1, hb, c.after f1, xc.after f1⟩
        | false => exact (c.after f1).here hb (.bl false) rg1
      | .v .non, _, hb | .v (.int _), _, hb | .v (.str _), _, hb | .v (.ty _), _, hb | .v (.ref _), _, hb | .v (.tup _), _, hb | .v (.lst _), _, hb | .v (.rl _), _, hb | .tl _, _, hb => exact hb.elim, xc⟩
theorem q_or (h : PE X e (tOrV (LE X.K E ta) (LE X.K E tb))) : PE X e (LE X.K E (wOr ta tb)) :=
  PE.of h fun σ H Q ⟨B, ρ, g, Q0, W0, rs, rg, t, c, xc⟩ =>
    ⟨B, ρ, g, _, W0, rs, rg, t, fun d g1 x H1 hb rd rg1 f1 _ => by
      match d, rd, hb with
      | .v (.bl b), rd, hb =>
        refine ⟨b, bl_of rd, ?_⟩
        cases b with
        | true => exact (c.after f1).here hb (.bl true) rg1
        | false => exact ⟨B, ρ, g1, Q0, W0, rs.fv rg f1, rg1, hb, c.after f1, xc.after f1⟩
      | .v .non, _, hb | .v (.int _), _, hb | .v (.str _), _, hb | .v (.ty _), _, hb | .v (.ref _), _, hb | .v (.tup _), _, hb | .v (.lst _), _, hb | .v (.rl _), _, hb | .tl _, _, hb => exact hb.elim, xc⟩
theorem q_not (h : PE X e (tNotV (LE X.K E ta))) : PE X e (LE X.K E (wNot ta)) :=
  PE.of h fun σ H Q ⟨B, ρ, g, Q0, W0, rs, rg, t, c, xc⟩ =>
    ⟨B, ρ, g, _, W0, rs, rg, t, fun d g1 x H1 hb rd rg1 f1 _ => by
      match d, rd, hb with
      | .v (.bl b), rd, hb => exact ⟨b, bl_of rd, (c.after f1).here hb (.bl _) rg1⟩
      | .v .non, _, hb | .v (.int _), _, hb | .v (.str _), _, hb | .v (.ty _), _, hb | .v (.ref _), _, hb | .v (.tup _), _, hb | .v (.lst _), _, hb | .v (.rl _), _, hb | .tl _, _, hb => exact hb.elim, xc⟩
theorem q_ite (h : PE X e (tIf (LT X.K E (wTest tc)) (LE X.K E ta) (LE X.K E tb))) : PE X e (LE X.K E (wIte tc ta tb)) :=
  PE.of h fun σ H Q ⟨B, ρ, g, Q0, W0, rs, rg, t, c, xc⟩ => by
    refine ⟨B, ρ, g, fun b g1 => if b = true then ta ρ g1 Q0 W0 else tb ρ g1 Q0 W0, W0, rs, rg, ?_, fun b g1 H1 hb rg1 f1 => ?_, xc⟩
    · exact t
    · cases b with
      | true => exact ⟨B, ρ, g1, Q0, W0, rs.fv rg f1, rg1, hb, c.after f1, xc.after f1⟩
      | false => exact ⟨B, ρ, g1, Q0, W0, rs.fv rg f1, rg1, hb, c.after f1, xc.after f1⟩
end
end G3
/-! G3: a tuple so many times, with none and one too -/
namespace G3
open PySem PySem.Spec PyProof.Rows L2
theorem tuple_mul0 (l : Addr) (items : Array Value) (n : Nat) (dd : Option Addr) (sl : Array (Option Value)) (x : Int) (u : Tok) (c0 : (decide (x < -(2 ^ 63)) || decide (x ≥ 2 ^ 63)) = false) (c1 : (items.isEmpty || x == 1) = false) (c2 : (decide (x ≤ 0) || items.isEmpty) = true) :
    Meets (Builtin.«tuple.__mul__» ⟨[.ref l, .int x u], []⟩) (fun _ R s => s.heap.get? l = some { cls := .type "tuple", dict := dd, data := .seq items n, slots := sl } ∧
      R (.ok (.ret (Value.ref s.heap.objs.size))) { s with heap := s.heap.push { cls := Value.type "tuple", data := Data.seq #[] }, toks := s.toks }) :=
  .of_wp fun prog w A R s h => by
    obtain ⟨hp, g, d, tk, os⟩ := s
    obtain ⟨hl, h⟩ := h
    have f1 := AutoSeq1.idx_int
    wp_walk using wpAny_loadPart' hl
    repeat (first
      | (refine wpAny_ite_false (decide_eq_false (by rw [c0]; exact Bool.false_ne_true)) ?_; wp_walk using wpAny_loadPart' hl)
      | (refine wpAny_ite_false (decide_eq_false (by rw [c1]; exact Bool.false_ne_true)) ?_; wp_walk using wpAny_loadPart' hl)
      | (refine wpAny_ite_true (decide_eq_true c2) ?_; wp_walk using wpAny_loadPart' hl))
    exact ⟨_, rfl, h⟩
theorem tuple_mul1 (l : Addr) (items : Array Value) (n : Nat) (dd : Option Addr) (sl : Array (Option Value)) (u : Tok) :
    Meets (Builtin.«tuple.__mul__» ⟨[.ref l, .int 1 u], []⟩) (fun _ R s => s.heap.get? l = some { cls := .type "tuple", dict := dd, data := .seq items n, slots := sl } ∧
      R (.ok (.ret (Value.ref l))) s) :=
  .of_wp fun prog w A R s h => by
    obtain ⟨hp, g, d, tk, os⟩ := s
    obtain ⟨hl, h⟩ := h
    have f1 := AutoSeq1.idx_int
    have c0 : (decide ((1 : Int) < -(2 ^ 63)) || decide ((1 : Int) ≥ 2 ^ 63)) = false := by decide
    have c1 : (items.isEmpty || (1 : Int) == 1) = true := by cases items.isEmpty <;> rfl
    wp_walk using wpAny_loadPart' hl
    repeat (first
      | (refine wpAny_ite_false (decide_eq_false (by rw [c0]; exact Bool.false_ne_true)) ?_; wp_walk using wpAny_loadPart' hl)
      | (refine wpAny_ite_true (decide_eq_true c1) ?_; wp_walk using wpAny_loadPart' hl))
    exact ⟨_, rfl, h⟩
/-- so many times: none, one, more -/
def rRepA (K : PySem.W.Frag) : R2 := fun x y H Q => ∃ l k xs, x = .ref l ∧ y = .int k ∧ SqT K H l xs ∧ xs ≠ [] ∧ -1000 ≤ k ∧ k ≤ 1000 ∧ xs.length ≤ 1000 ∧ (k = 1 → Q (.ref l) H) ∧ (k ≠ 1 → ∀ p, H p = none → Q (.ref p) (upd H p (.tup (List.replicate k.toNat xs).flatten)))
section
variable {X : Cx}
theorem op_repA : OpR X (binaryOp .Mult) (rRepA X.K) := by
  intro pins s σ H x y v u Q I rx ry h
  obtain ⟨l, k, xs, rfl, rfl, hT, hne, h1, h2, hz, q1, q⟩ := h
  by_cases h2k : 2 ≤ k
  · exact op_repT pins s σ H _ _ v u Q I rx ry ⟨l, k, xs, rfl, rfl, hT, hne, h2k, h2, hz, q (by omega)⟩
  cases rx
  obtain ⟨t, rfl⟩ := ry
  obtain ⟨its, r, ⟨⟨cls, dd, data, sl⟩, ho, hc, n, hd⟩, hs⟩ := I.tuple hT
  simp only at hc hd
  subst hc hd
  have hle : its.length = xs.length := r.length.symm
  have hn : its ≠ [] := fun e => hne (by
    rw [e] at hle
    exact List.eq_nil_of_length_eq_zero hle.symm)
  have hi : its.toArray.isEmpty = false := by
    cases its with
    | nil => exact absurd rfl hn
    | cons a b => rfl
  by_cases h1k : k = 1
  · subst h1k
    exact wpAny_binaryOp_repeat_ref (T := "tuple") (U := "int") (by decide) ⟨_, ho, rfl⟩ (fun s' => typeIs_int s' 1 t) noFill_tuple_mul F.fills_int_mul F.slot_int_rmul repeat_tuple F.slot_int_index.lookup
      (call_meets F.slot_int_rmul (typeIs_int s 1 t) F.entry_int_rmul (F.args_int_rmul_2 _ _) (int_rmul_tuple 1 t l its.toArray n dd sl)
        ⟨ho, rfl, ⟨_, ho, rfl⟩, call_meets F.slot_tuple_mul ⟨_, ho, rfl⟩ F.entry_tuple_mul (F.args_tuple_mul_2 _ _) (tuple_mul1 l its.toArray n dd sl t) ⟨ho, ⟨.ref l, H, I, rfl, q1 rfl⟩⟩⟩)
  have c0 : (decide (k < -(2 ^ 63)) || decide (k ≥ 2 ^ 63)) = false := by
    rw [decide_eq_false (by omega), decide_eq_false (by omega)] <;> rfl
  have c1 : (its.toArray.isEmpty || k == 1) = false := by
    rw [hi, Bool.false_or]
    exact beq_eq_false_iff_ne.mpr h1k
  have c2 : (decide (k ≤ 0) || its.toArray.isEmpty) = true := by
    rw [decide_eq_true (by omega)]; rfl
  have hk0 : k.toNat = 0 := by omega
  refine wpAny_binaryOp_repeat_ref (T := "tuple") (U := "int") (by decide) ⟨_, ho, rfl⟩ (fun s' => typeIs_int s' k t) noFill_tuple_mul F.fills_int_mul F.slot_int_rmul repeat_tuple F.slot_int_index.lookup
    (call_meets F.slot_int_rmul (typeIs_int s k t) F.entry_int_rmul (F.args_int_rmul_2 _ _) (int_rmul_tuple k t l its.toArray n dd sl)
      ⟨ho, rfl, ⟨_, ho, rfl⟩, call_meets F.slot_tuple_mul ⟨_, ho, rfl⟩ F.entry_tuple_mul (F.args_tuple_mul_2 _ _) (tuple_mul0 l its.toArray n dd sl k t c0 c1 c2) ⟨ho, ?_⟩⟩)
  refine ⟨.ref s.heap.objs.size, _, I.laid (t' := s.toks) (o := .tup (List.replicate k.toNat xs).flatten) (fun b ob q => Heap.get?_push_of_some _ q) (Nat.le_refl _) ?_, rfl, q h1k _ (I.hok.fresh (Nat.le_refl _))⟩
  have e : (List.replicate k.toNat xs).flatten = [] := by rw [hk0]; rfl
  rw [e]
  exact ⟨Nat.zero_le _, [], .nil, IsTup.new _ _⟩
end
end G3
/-! G3: operators, comparisons, subscripts by data -/
namespace G3
open PySem L2

/-! ### lists of data -/
section
variable {K : PySem.W.Frag} {H : Hp} {g : GH}
theorem Reps.get : ∀ {vs : List V} {ds : List D} {i : Nat} {d : D}, Reps K H g vs ds → ds[i]? = some d → ∃ v, vs[i]? = some v ∧ Rep K H g v d
  | _, _, _, _, .nil, e => by simp at e
  | _, _, 0, d, .cons r _, e => by simp at e; subst e; exact ⟨_, rfl, r⟩
  | _, _, i + 1, d, .cons _ t, e => by
    obtain ⟨v, h1, h2⟩ := Reps.get (i := i) (d := d) t (by simpa using e)
    exact ⟨v, by simpa using h1, h2⟩
theorem Reps.append : ∀ {vs ws : List V} {ds es : List D}, Reps K H g vs ds → Reps K H g ws es → Reps K H g (vs ++ ws) (ds ++ es)
  | _, _, _, _, .nil, s => s
  | _, _, _, _, .cons r t, s => .cons r (Reps.append t s)
theorem Reps.take : ∀ {vs : List V} {ds : List D} (n : Nat), Reps K H g vs ds → Reps K H g (vs.take n) (ds.take n)
  | _, _, 0, _ => .nil
  | _, _, _ + 1, .nil => .nil
  | _, _, n + 1, .cons r t => .cons r (Reps.take n t)
theorem Reps.drop : ∀ {vs : List V} {ds : List D} (n : Nat), Reps K H g vs ds → Reps K H g (vs.drop n) (ds.drop n)
  | _, _, 0, r => r
  | _, _, _ + 1, .nil => .nil
  | _, _, n + 1, .cons _ t => Reps.drop n t
theorem Reps.set {v : V} {d : D} (r : Rep K H g v d) : ∀ {vs : List V} {ds : List D} (i : Nat), Reps K H g vs ds → Reps K H g (vs.set i v) (ds.set i d)
  | _, _, _, .nil => .nil
  | _, _, 0, .cons _ t => .cons r t
  | _, _, i + 1, .cons q t => .cons q (Reps.set r i t)
theorem Reps.eraseIdx : ∀ {vs : List V} {ds : List D} (i : Nat), Reps K H g vs ds → Reps K H g (vs.eraseIdx i) (ds.eraseIdx i)
  | _, _, _, .nil => .nil
  | _, _, 0, .cons _ t => t
  | _, _, i + 1, .cons q t => .cons q (Reps.eraseIdx i t)
theorem Reps.dropLast : ∀ {vs : List V} {ds : List D}, Reps K H g vs ds → Reps K H g vs.dropLast ds.dropLast
  | _, _, .nil => .nil
  | _, _, .cons _ .nil => .nil
  | _, _, .cons q (.cons q' t) => .cons q (Reps.dropLast (.cons q' t))
theorem Reps.one {v : V} {d : D} (r : Rep K H g v d) : Reps K H g [v] [d] := .cons r .nil
theorem Reps.flat : ∀ (n : Nat) {vs : List V} {ds : List D}, Reps K H g vs ds → Reps K H g (List.replicate n vs).flatten (List.replicate n ds).flatten
  | 0, _, _, _ => .nil
  | n + 1, _, _, r => by
    rw [List.replicate_succ, List.replicate_succ, List.flatten_cons, List.flatten_cons]
    exact r.append (Reps.flat n r)
end

/-- what may be read as a list; as a list or tuple -/
def lstOf (g : GH) : R → List D → Prop
  | .tl ds, xs => xs = ds
  | .v (.lst ds), xs => xs = ds
  | .v (.ref a), xs => g a = some (.lst xs)
  | _, _ => False
def tupOf : R → List D → Prop
  | .v (.tup ds), xs => xs = ds
  | _, _ => False
def rolOf : R → List D → Prop
  | .v (.rl ds), xs => xs = ds
  | _, _ => False
def rdOf (g : GH) (r : R) (xs : List D) : Prop := lstOf g r xs ∨ tupOf r xs ∨ rolOf r xs
section
variable {K : PySem.W.Frag} {H : Hp} {g : GH} {v : V} {r : R} {xs : List D}
theorem lstOf.rep (G : RepG K H g) (h : Rep K H g v r.fz) (l : lstOf g r xs) : ∃ a vs, v = .ref a ∧ H a = some (.lst vs) ∧ Reps K H g vs xs := by
  match r, h, l with
  | .tl ds, .lst h k q, l => cases l; exact ⟨_, _, rfl, h, q⟩
  | .v (.lst ds), .lst h k q, l => cases l; exact ⟨_, _, rfl, h, q⟩
  | .v (.ref a), .ref _, l =>
    obtain ⟨u, hu, q⟩ := G a _ l
    cases q with
    | lst q => exact ⟨a, _, rfl, hu, q⟩
theorem tupOf.repH (h : Rep K H g v r.fz) (l : tupOf r xs) : ∃ a vs, v = .ref a ∧ H a = some (.tup vs) ∧ Reps K H g vs xs := by
  match r, h, l with
  | .v (.tup ds), .tup h q, l => cases l; exact ⟨_, _, rfl, h, q⟩
theorem tupOf.rep (h : Rep K H g v r.fz) (l : tupOf r xs) : ∃ a vs, v = .ref a ∧ SqT K H a vs ∧ Reps K H g vs xs :=
  let ⟨a, vs, e, h, q⟩ := tupOf.repH h l
  ⟨a, vs, e, .inl (.inl h), q⟩
theorem SqR.l {a : Addr} {vs : List V} (h : SqR K H a vs) : SqL K H a vs := h.imp (fun ⟨o, z⟩ => .inr ⟨o, z⟩) id
theorem rolOf.rep (h : Rep K H g v r.fz) (l : rolOf r xs) : ∃ a vs, v = .ref a ∧ SqL K H a vs ∧ Reps K H g vs xs := by
  match r, h, l with
  | .v (.rl ds), .rl h q, l => cases l; exact ⟨_, _, rfl, h.l, q⟩
theorem rdOf.rep (G : RepG K H g) (h : Rep K H g v r.fz) (l : rdOf g r xs) : ∃ a vs, v = .ref a ∧ (SqL K H a vs ∨ SqT K H a vs) ∧ Reps K H g vs xs := by
  rcases l with l | l | l
  · obtain ⟨a, vs, e, h, q⟩ := lstOf.rep G h l; exact ⟨a, vs, e, .inl (.inl (.inl h)), q⟩
  · obtain ⟨a, vs, e, h, q⟩ := tupOf.rep h l; exact ⟨a, vs, e, .inr h, q⟩
  · obtain ⟨a, vs, e, h, q⟩ := rolOf.rep h l; exact ⟨a, vs, e, .inl h, q⟩
end

/-! ### ints -/
def fI2 (C : Int → Int → Prop) (h : Int → Int → D) : R → R → GH → QK → Prop := fun x y g Q => match x, y with
  | .v (.int i), .v (.int j) => C i j ∧ Q (.v (h i j)) g
  | _, _ => False
theorem int_of {K : PySem.W.Frag} {H : Hp} {g : GH} {v : V} {b : Int} (r : Rep K H g v (.int b)) : v = .int b := by cases r; rfl
theorem str_of {K : PySem.W.Frag} {H : Hp} {g : GH} {v : V} {b : Str} (r : Rep K H g v (.str b)) : v = .str b := by cases r; rfl
theorem fI2_inv {C : Int → Int → Prop} {h : Int → Int → D} {x y : R} {g : GH} {Q : QK} (q : fI2 C h x y g Q) : ∃ i j, x = .v (.int i) ∧ y = .v (.int j) ∧ C i j ∧ Q (.v (h i j)) g := by
  unfold fI2 at q
  split at q
  · exact ⟨_, _, rfl, rfl, q⟩
  · exact q.elim
theorem ok_I2 {K : PySem.W.Frag} {C : Int → Int → Prop} {h : Int → Int → D} {h' : Int → Int → V} (hh : ∀ i j H g, Rep K H g (h' i j) (h i j)) : R2Ok K (fI2 C h) (rI C h') := fun x y d e B H g Q0 Q rx ry rg q c => by
  obtain ⟨i, j, rfl, rfl, hc, q⟩ := fI2_inv q
  exact ⟨i, j, int_of rx, int_of ry, hc, c.here q (hh i j _ g) rg⟩
theorem ok_I20 {K : PySem.W.Frag} {h : Int → Int → D} {h' : Int → Int → V} (hh : ∀ i j H g, Rep K H g (h' i j) (h i j)) : R2Ok K (fI2 (fun _ _ => True) h) (rI0 h') := fun x y d e B H g Q0 Q rx ry rg q c => by
  obtain ⟨i, j, rfl, rfl, hc, q⟩ := fI2_inv q
  exact ⟨i, j, int_of rx, int_of ry, c.here q (hh i j _ g) rg⟩
def fNeg : R → GH → QK → Prop := fun x g Q => match x with
  | .v (.int i) => Q (.v (.int (-i))) g
  | _ => False
theorem ok_neg {K : PySem.W.Frag} : R1Ok K fNeg (rU fun i => .int (-i)) := fun x d B H g Q0 Q rx rg q c => by
  unfold fNeg at q
  split at q
  · exact ⟨_, int_of rx, c.here q (.int _) rg⟩
  · exact q.elim

/-! ### texts, tuples, lists put together -/
def fAddS : R → R → GH → QK → Prop := fun x y g Q => match x, y with
  | .v (.str i), .v (.str j) => i.length + j.length ≤ sizeLine ∧ Q (.v (.str (i ++ j))) g
  | _, _ => False
theorem ok_addS {K : PySem.W.Frag} : R2Ok K fAddS (fun x y H Q => ∃ i j, x = .str i ∧ y = .str j ∧ i.length + j.length ≤ sizeLine ∧ Q (.str (i ++ j)) H) := fun x y d e B H g Q0 Q rx ry rg q c => by
  unfold fAddS at q
  split at q
  · exact ⟨_, _, str_of rx, str_of ry, q.1, c.here q.2 (.str _) rg⟩
  · exact q.elim
def fAddT : R → R → GH → QK → Prop := fun x y g Q => ∃ a b, tupOf x a ∧ tupOf y b ∧ a.length + b.length ≤ sizeLine ∧ Q (.v (.tup (a ++ b))) g
theorem ok_addT {K : PySem.W.Frag} : R2Ok K fAddT (rCatA K) := fun x y d e B H g Q0 Q rx ry rg ⟨a, b, ha, hb, hz, q⟩ c => by
  obtain ⟨p, vs, rfl, hp, r1⟩ := ha.repH rx
  obtain ⟨p2, ws, rfl, hp2, r2⟩ := hb.repH ry
  refine ⟨p, p2, vs, ws, rfl, rfl, sqT_un (.inl (.inl hp)), sqT_un (.inl (.inl hp2)), by rw [r1.length, r2.length]; exact hz, fun e => ?_, fun _ e => ?_, fun _ _ p3 h3 => c.newT q (r1.append r2) rg p3 h3⟩
  · subst e; cases r1
    exact c.here q (.tup hp2 r2) rg
  · subst e; cases r2
    rw [List.append_nil] at q
    exact c.here q (.tup hp r1) rg
def fAddL : R → R → GH → QK → Prop := fun x y g Q => ∃ a b, lstOf g x a ∧ lstOf g y b ∧ a.length + b.length ≤ sizeLine ∧ Q (.tl (a ++ b)) g
theorem ok_addL {K : PySem.W.Frag} : R2Ok K fAddL rCat := fun x y d e B H g Q0 Q rx ry rg ⟨a, b, ha, hb, hz, q⟩ c => by
  obtain ⟨p, vs, rfl, hp, r1⟩ := ha.rep rg.rg rx
  obtain ⟨p2, ws, rfl, hp2, r2⟩ := hb.rep rg.rg ry
  exact ⟨p, p2, vs, ws, rfl, rfl, (of_hide hp).1, (of_hide hp2).1, by rw [r1.length, r2.length]; exact hz, fun p3 h3 => c.newL q (r1.append r2) rg p3 h3⟩
/-- a tuple, a list so many times -/
def fRepT : R → R → GH → QK → Prop := fun x y g Q => match y with
  | .v (.int k) => ∃ a, tupOf x a ∧ a ≠ [] ∧ -1000 ≤ k ∧ k ≤ 1000 ∧ a.length ≤ 1000 ∧ Q (.v (.tup (List.replicate k.toNat a).flatten)) g
  | _ => False
theorem ok_repT {K : PySem.W.Frag} : R2Ok K fRepT (rRepA K) := fun x y d e B H g Q0 Q rx ry rg q c => by
  unfold fRepT at q
  split at q
  · obtain ⟨a, ha, hne, h2, hk, hz, q⟩ := q
    obtain ⟨p, vs, rfl, hp, r1⟩ := ha.repH rx
    refine ⟨p, _, vs, rfl, int_of ry, sqT_un (.inl (.inl hp)), fun e => by subst e; cases r1; exact hne rfl, h2, hk, by rw [r1.length]; exact hz, fun e => ?_, fun _ p3 h3 => c.newT q (r1.flat _) rg p3 h3⟩
    subst e
    have e1 : (List.replicate (1 : Int).toNat a).flatten = a := by show ([a] : List (List D)).flatten = a; simp
    rw [e1] at q
    exact c.here q (.tup hp r1) rg
  · exact q.elim

/-! ### items, slices -/
def fIx (of : GH → R → List D → Prop) : R → R → GH → QK → Prop := fun x y g Q => match y with
  | .v (.int i) => ∃ a d, of g x a ∧ atI a i = some d ∧ Q (.v d) g
  | _ => False
theorem Reps.atI {K : PySem.W.Frag} {H : Hp} {g : GH} {vs : List V} {ds : List D} (r : Reps K H g vs ds) {i : Int} {d : D} (h : L2.atI ds i = some d) : ∃ v, L2.atI vs i = some v ∧ Rep K H g v d := by
  unfold L2.atI at h ⊢
  rw [r.length]
  cases e : ixN ds.length i with
  | none => rw [e] at h; cases h
  | some j =>
    rw [e] at h
    obtain ⟨v, hv, q⟩ := r.get h
    exact ⟨v, hv, q⟩
theorem ok_ixT {K : PySem.W.Frag} : R2Ok K (fIx fun _ => tupOf) (rIxT K) := fun x y d e B H g Q0 Q rx ry rg q c => by
  unfold fIx at q
  split at q
  · obtain ⟨a, z, ha, hz, q⟩ := q
    obtain ⟨p, vs, rfl, hp, r1⟩ := ha.rep rx
    obtain ⟨v, hv, r⟩ := r1.atI hz
    exact ⟨p, vs, _, v, rfl, int_of ry, sqT_un hp, hv, c.here q r rg⟩
  · exact q.elim
theorem ok_ixL {K : PySem.W.Frag} : R2Ok K (fIx lstOf) (rIxL K) := fun x y d e B H g Q0 Q rx ry rg q c => by
  unfold fIx at q
  split at q
  · obtain ⟨a, z, ha, hz, q⟩ := q
    obtain ⟨p, vs, rfl, hp, r1⟩ := ha.rep rg.rg rx
    obtain ⟨v, hv, r⟩ := r1.atI hz
    exact ⟨p, vs, _, v, rfl, int_of ry, .inl (.inl (of_hide hp).1), hv, c.here q r rg⟩
  · exact q.elim
def fIxS : R → R → GH → QK → Prop := fun x y g Q => match x, y with
  | .v (.str z), .v (.int i) => z.length ≤ sizeLine ∧ ∃ c, atI z.cps.toList i = some c ∧ Q (.v (.str ⟨#[c]⟩)) g
  | _, _ => False
theorem ok_ixS {K : PySem.W.Frag} : R2Ok K fIxS rIxS := fun x y d e B H g Q0 Q rx ry rg q c => by
  unfold fIxS at q
  split at q
  · obtain ⟨hz, z, h, q⟩ := q
    exact ⟨_, _, z, str_of rx, int_of ry, hz, h, c.here q (.str _) rg⟩
  · exact q.elim
/-- the part of a list from lo to hi -/
def cutD {α : Type} (xs : List α) (lo hi : Option Int) : List α := (xs.drop (HT.sIx xs.length 0 lo)).take (HT.sIx xs.length xs.length hi - HT.sIx xs.length 0 lo)
def optI : Option R → Option (Option Int)
  | none => some none
  | some (.v (.int i)) => some (some i)
  | _ => none

/-! ### equality -/
mutual
def pd : D → PyData
  | .non => .none
  | .bl b => .bool b
  | .int i => .int i
  | .str x => .str x
  | .ty _ => .none
  | .ref _ => .none
  | .tup ds => .tuple (pds ds)
  | .lst ds => .list (pds ds)
  | .rl _ => .none
  | .gl _ => .none
  | .exc _ _ => .none
def pds : List D → List PyData
  | [] => []
  | d :: ds => pd d :: pds ds
end
mutual
/-- data through and through, its texts of good signs, nested no more than n -/
def okD : Nat → D → Bool
  | _, .non => true
  | _, .bl _ => true
  | _, .int _ => true
  | _, .str x => PyData.strOk x
  | _, .ty _ => false
  | _, .ref _ => false
  | _, .gl _ => false
  | _, .exc _ _ => false
  | 0, .tup _ => false
  | n + 1, .tup ds => okDs n ds
  | 0, .lst _ => false
  | n + 1, .lst ds => okDs n ds
  | _, .rl _ => false
def okDs : Nat → List D → Bool
  | _, [] => true
  | n, d :: ds => okD n d && okDs n ds
end
mutual
theorem okD_lay : ∀ (n : Nat) (d : D), okD n d = true → (pd d).canLay0 = true ∧ (pd d).depth ≤ n
  | _, .non, _ => by simp [pd, PyData.canLay0, PyData.depth]
  | _, .bl _, _ => by simp [pd, PyData.canLay0, PyData.depth]
  | _, .int _, _ => by simp [pd, PyData.canLay0, PyData.depth]
  | _, .str x, h => by
    simp only [okD] at h
    simp [pd, PyData.canLay0, PyData.depth, h]
  | _, .ty _, h => by simp [okD] at h
  | _, .ref _, h => by simp [okD] at h
  | _, .gl _, h => by simp [okD] at h
  | _, .exc _ _, h => by simp [okD] at h
  | _, .rl _, h => by simp [okD] at h
  | 0, .tup _, h => by simp [okD] at h
  | n + 1, .tup ds, h => by
    simp only [okD] at h
    have q := okDs_lay n ds h
    simp only [pd, PyData.canLay0, PyData.depth]
    exact ⟨q.1, by omega⟩
  | 0, .lst _, h => by simp [okD] at h
  | n + 1, .lst ds, h => by
    simp only [okD] at h
    have q := okDs_lay n ds h
    simp only [pd, PyData.canLay0, PyData.depth]
    exact ⟨q.1, by omega⟩
theorem okDs_lay : ∀ (n : Nat) (ds : List D), okDs n ds = true → PyData.canLayAll0 (pds ds) = true ∧ PyData.depthAll (pds ds) ≤ n
  | _, [], _ => by simp [pds, PyData.canLayAll0, PyData.depthAll]
  | n, d :: ds, h => by
    simp only [okDs, Bool.and_eq_true] at h
    have q1 := okD_lay n d h.1
    have q2 := okDs_lay n ds h.2
    simp only [pds, PyData.canLayAll0, PyData.depthAll, Bool.and_eq_true]
    exact ⟨⟨q1.1, q2.1⟩, Nat.max_le.mpr ⟨q1.2, q2.2⟩⟩
end
theorem okD_shaped {d : D} (h : okD 64 d = true) : SeqAt.shaped (pd d) = true := by
  have q := okD_lay 64 d h
  unfold SeqAt.shaped
  rw [q.1]
  exact decide_eq_true q.2
mutual
theorem Rep.dp {K : PySem.W.Frag} {H : Hp} {g : GH} : ∀ {v : V} {d : D} (n : Nat), Rep K H g v d → okD n d = true → Dp K H v (pd d)
  | _, _, _, .non, _ => .non
  | _, _, _, .bl b, _ => .bl b
  | _, _, _, .int i, _ => .int i
  | _, _, _, .str x, _ => .str x
  | _, _, _, .ty n, k => by simp [okD] at k
  | _, _, _, .ref n, k => by simp [okD] at k
  | _, _, _, .gl _, k => by simp [okD] at k
  | _, _, _, .exc0 _ _ _, k => by simp [okD] at k
  | _, _, _, .exc1 _ _ _ _ _, k => by simp [okD] at k
  | _, _, _, .rl h r, k => by simp [okD] at k
  | _, _, 0, .tup h r, k => by simp [okD] at k
  | _, _, n + 1, .tup h r, k => by
    simp only [okD] at k
    exact .tup (.inl (.inl h)) (Reps.dp n r k)
  | _, _, 0, .lst h _ r, k => by simp [okD] at k
  | _, _, n + 1, .lst h _ r, k => by
    simp only [okD] at k
    exact .lst (.inl (.inl h)) (Reps.dp n r k)
theorem Reps.dp {K : PySem.W.Frag} {H : Hp} {g : GH} : ∀ {vs : List V} {ds : List D} (n : Nat), Reps K H g vs ds → okDs n ds = true → DpAll K H vs (pds ds)
  | _, _, _, .nil, _ => .nil
  | _, _, n, .cons h r, k => by
    simp only [okDs, Bool.and_eq_true] at k
    exact .cons (Rep.dp n h k.1) (Reps.dp n r k.2)
end
/-- a tracked list read as one that stands still -/
def resR (g : GH) : R → D → Prop
  | .v (.ref a), d => ∃ xs, g a = some (.lst xs) ∧ d = .lst xs
  | r, d => d = r.fz
theorem resR.dp {K : PySem.W.Frag} {H : Hp} {g : GH} {v : V} {r : R} {d : D} (G : RepG K H g) (x : Rep K H g v r.fz) (h : resR g r d) (k : okD 64 d = true) : Dp K H v (pd d) := by
  match r, x, h with
  | .v (.ref a), .ref _, h =>
    obtain ⟨xs, hx, e⟩ : ∃ xs, g a = some (.lst xs) ∧ d = .lst xs := h
    subst e
    obtain ⟨u, hu, q⟩ := G a _ hx
    cases q with
    | lst q => exact .lst (.inl (.inl hu)) (Reps.dp 63 q (by simpa only [okD] using k))
  | .tl ds, x, h => cases h; exact x.dp 64 k
  | .v .non, x, h | .v (.bl _), x, h | .v (.int _), x, h | .v (.str _), x, h | .v (.ty _), x, h | .v (.tup _), x, h | .v (.lst _), x, h | .v (.gl _), x, h | .v (.exc _ _), x, h | .v (.rl _), x, h => cases h; exact x.dp 64 k
/-- a tracked list of tracked lists, read as it stands -/
def rsv1 (g : GH) (d : D) : D := match d with
  | .ref a => match g a with
    | some (.lst xs) => .lst xs
    | _ => .ref a
  | d => d
def rsv2 (g : GH) (d : D) : D := match d with
  | .ref a => match g a with
    | some (.lst xs) => .lst (xs.map (rsv1 g))
    | _ => .ref a
  | .lst xs => .lst (xs.map (rsv1 g))
  | .tup xs => .tup (xs.map (rsv1 g))
  | d => d
theorem rsv1_dp {K : PySem.W.Frag} {H : Hp} {g : GH} {v : V} {d : D} (G : RepG K H g) (x : Rep K H g v d) (k : okD 63 (rsv1 g d) = true) : Dp K H v (pd (rsv1 g d)) := by
  unfold rsv1 at k ⊢
  split
  · rename_i a
    cases x
    dsimp only at k
    split
    · rename_i xs hx
      rw [hx] at k
      obtain ⟨u, hu, q⟩ := G a _ hx
      cases q with
      | lst q => exact .lst (.inl (.inl hu)) (Reps.dp 62 q (by simpa only [okD] using k))
    · rename_i n
      split at k
      · rename_i xs hx; exact absurd hx (n xs)
      · simp [okD] at k
  · rename_i n
    refine x.dp 63 ?_
    split at k
    · exact absurd rfl (n _)
    · exact k
theorem rsv1s_dp {K : PySem.W.Frag} {H : Hp} {g : GH} (G : RepG K H g) : ∀ {vs : List V} {ds : List D}, Reps K H g vs ds → okDs 63 (ds.map (rsv1 g)) = true → DpAll K H vs (pds (ds.map (rsv1 g)))
  | _, _, .nil, _ => .nil
  | _, _, .cons h r, k => by
    simp only [List.map_cons, okDs, Bool.and_eq_true] at k
    exact .cons (rsv1_dp G h k.1) (rsv1s_dp G r k.2)
theorem rsv2_dp {K : PySem.W.Frag} {H : Hp} {g : GH} {v : V} {d : D} (G : RepG K H g) (x : Rep K H g v d) (k : okD 64 (rsv2 g d) = true) : Dp K H v (pd (rsv2 g d)) := by
  unfold rsv2 at k ⊢
  split
  · rename_i a
    cases x
    dsimp only at k
    split
    · rename_i xs hx
      rw [hx] at k
      obtain ⟨u, hu, q⟩ := G a _ hx
      cases q with
      | lst q => exact .lst (.inl (.inl hu)) (rsv1s_dp G q (by simpa only [okD] using k))
    · rename_i n
      split at k
      · rename_i xs hx; exact absurd hx (n xs)
      · simp [okD] at k
  · cases x with
    | lst h _ q => exact .lst (.inl (.inl h)) (rsv1s_dp G q (by simpa only [okD] using k))
  · cases x with
    | tup h q => exact .tup (.inl (.inl h)) (rsv1s_dp G q (by simpa only [okD] using k))
  · rename_i n1 n2 n3
    refine x.dp 64 ?_
    split at k
    · exact absurd rfl (n1 _)
    · exact absurd rfl (n2 _)
    · exact absurd rfl (n3 _)
    · exact k
def deq (x y : D) : Bool := PyData.eqv (pd x) (pd y)
def fEq (neg : Bool) : R → R → GH → QK → Prop := fun x y g Q => ∃ d e, resR g x d ∧ resR g y e ∧ okD 64 d = true ∧ okD 64 e = true ∧ Q (.v (.bl (neg ^^ deq d e))) g
theorem ok_eq {K : PySem.W.Frag} : R2Ok K (fEq false) (rEqD K) := fun x y d e B H g Q0 Q rx ry rg ⟨a, b, ha, hb, ka, kb, q⟩ c =>
  ⟨_, _, ha.dp rg.un rx.un ka, hb.dp rg.un ry.un kb, okD_shaped ka, okD_shaped kb, c.here q (by rw [Bool.false_xor]; exact .bl _) rg⟩
theorem ok_ne {K : PySem.W.Frag} : R2Ok K (fEq true) (rNeD K) := fun x y d e B H g Q0 Q rx ry rg ⟨a, b, ha, hb, ka, kb, q⟩ c =>
  ⟨_, _, ha.dp rg.un rx.un ka, hb.dp rg.un ry.un kb, okD_shaped ka, okD_shaped kb, c.here q (by rw [Bool.true_xor]; exact .bl _) rg⟩
/-- is None -/
def isNon : D → Bool
  | .non => true
  | _ => false
def fIsN (neg : Bool) : R → R → GH → QK → Prop := fun x y g Q => match y with
  | .v .non => Q (.v (.bl (neg ^^ isNon x.fz))) g
  | _ => False
theorem isNon_rep {K : PySem.W.Frag} {H : Hp} {g : GH} {v : V} {d : D} (r : Rep K H g v d) : decide (v = .non) = isNon d := by
  cases r <;> first | rfl | exact decide_eq_false (fun e => by cases e)
theorem ok_isN {K : PySem.W.Frag} : R2Ok K (fIsN false) (fun x y H Q => y = .non ∧ Q (.bl (decide (x = .non))) H) := fun x y d e B H g Q0 Q rx ry rg q c => by
  unfold fIsN at q
  split at q
  · refine ⟨by cases ry; rfl, ?_⟩
    rw [isNon_rep rx]
    rw [Bool.false_xor] at q
    exact c.here q (.bl _) rg
  · exact q.elim
theorem ok_notN {K : PySem.W.Frag} : R2Ok K (fIsN true) (fun x y H Q => y = .non ∧ Q (.bl (!decide (x = .non))) H) := fun x y d e B H g Q0 Q rx ry rg q c => by
  unfold fIsN at q
  split at q
  · refine ⟨by cases ry; rfl, ?_⟩
    rw [isNon_rep rx]
    rw [Bool.true_xor] at q
    exact c.here q (.bl _) rg
  · exact q.elim

/-! ### in -/
theorem flat_dp {K : PySem.W.Frag} {H : Hp} {g : GH} {v : V} {d : D} (r : Rep K H g v d) (k : okD 0 d = true) : flatV v = true := by
  cases r with
  | non => rfl
  | bl b => rfl
  | int i => rfl
  | str x => rfl
  | _ => simp [okD] at k
theorem flats_dp {K : PySem.W.Frag} {H : Hp} {g : GH} : ∀ {v : List V} {d : List D}, Reps K H g v d → okDs 0 d = true → v.all flatV = true
  | _, _, .nil, _ => rfl
  | _, _, .cons h r, k => by
    simp only [okDs, Bool.and_eq_true] at k
    rw [List.all_cons, flat_dp h k.1, flats_dp r k.2]
    rfl
theorem eqV_deq {K : PySem.W.Frag} {H : Hp} {g : GH} {v w : V} {d e : D} (r : Rep K H g v d) (q : Rep K H g w e) (k : okD 0 d = true) (l : okD 0 e = true) : eqV v w = deq d e := by
  cases r with
  | tup h r => simp [okD] at k
  | lst h _ r => simp [okD] at k
  | ty n => simp [okD] at k
  | ref n => simp [okD] at k
  | rl _ _ => simp [okD] at k
  | gl _ => simp [okD] at k
  | exc0 _ _ _ => simp [okD] at k
  | exc1 _ _ _ _ _ => simp [okD] at k
  | _ => cases q with
    | tup h r => simp [okD] at l
    | lst h _ r => simp [okD] at l
    | ty n => simp [okD] at l
    | ref n => simp [okD] at l
    | rl _ _ => simp [okD] at l
    | gl _ => simp [okD] at l
    | exc0 _ _ _ => simp [okD] at l
    | exc1 _ _ _ _ _ => simp [okD] at l
    | _ => simp [eqV, deq, pd, PyData.eqv]
def inD (x : D) (xs : List D) : Bool := xs.any fun y => deq y x
theorem inV_inD {K : PySem.W.Frag} {H : Hp} {g : GH} {x : V} {d : D} (r : Rep K H g x d) (k : okD 0 d = true) : ∀ {vs : List V} {ds : List D}, Reps K H g vs ds → okDs 0 ds = true → inV x vs = inD d ds
  | _, _, .nil, _ => rfl
  | _, _, .cons h t, l => by
    simp only [okDs, Bool.and_eq_true] at l
    have e := inV_inD r k t l.2
    unfold inV inD at e ⊢
    rw [List.any_cons, List.any_cons, eqV_deq h r l.1 k, e]
/-- x in a list or tuple of flat things -/
def fIn (neg : Bool) : R → R → GH → QK → Prop := fun x y g Q => ∃ a, rdOf g y a ∧ okD 0 x.fz = true ∧ okDs 0 a = true ∧ Q (.v (.bl (if neg then !inD x.fz a else inD x.fz a))) g
theorem ok_in {K : PySem.W.Frag} {neg : Bool} : R2Ok K (fIn neg) (rIn K neg) := fun x y d e B H g Q0 Q rx ry rg ⟨a, ha, kx, ka, q⟩ c => by
  obtain ⟨p, vs, rfl, hp, r1⟩ := ha.rep rg.rg ry
  refine ⟨p, vs, rfl, hp.imp (fun h => by
    rcases h with (h | ⟨o, h⟩) | h
    · exact .inl (.inl (of_hide h).1)
    · exact .inl (.inr ⟨o, (of_hide h).1⟩)
    · exact .inr h) sqT_un, flat_dp rx kx, flats_dp r1 ka, ?_⟩
  rw [inV_inD rx kx r1 ka]
  exact c.here q (.bl _) rg
theorem pds_any {x : D} : ∀ (ds : List D), (pds ds).any (fun z => PyData.eqv z (pd x)) = inD x ds
  | [] => rfl
  | d :: ds => by
    have e := pds_any (x := x) ds
    unfold inD at e ⊢
    simp only [pds, List.any_cons, e]
    rfl
/-- x in a list of data -/
def fInD (neg : Bool) : R → R → GH → QK → Prop := fun x y g Q => ∃ a, lstOf g y a ∧ okD 64 x.fz = true ∧ okDs 63 a = true ∧ Q (.v (.bl (if neg then !inD x.fz a else inD x.fz a))) g
theorem fInD_dp {K : PySem.W.Frag} {H : Hp} {g : GH} {v : V} {r : R} {a : List D} (rg : RepG K H g) (ry : Rep K H g v r.fz) (ha : lstOf g r a) (ka : okDs 63 a = true) : Dp K H v (.list (pds a)) ∧ SeqAt.shaped (.list (pds a)) = true := by
  obtain ⟨p, vs, rfl, hp, r1⟩ := ha.rep rg ry
  have k : okD 64 (.lst a) = true := by simpa only [okD] using ka
  exact ⟨.lst (.inl (.inl hp)) (r1.dp 63 ka), okD_shaped k⟩
theorem ok_inD {K : PySem.W.Frag} : R2Ok K (fInD false) (rInD K) := fun x y d e B H g Q0 Q rx ry rg ⟨a, ha, kx, ka, q⟩ c => by
  obtain ⟨h1, h2⟩ := fInD_dp rg.un ry.un ha ka
  exact ⟨_, _, rx.un.dp 64 kx, h1, okD_shaped kx, h2, by rw [pds_any]; exact c.here q (.bl _) rg⟩
theorem ok_notInD {K : PySem.W.Frag} : R2Ok K (fInD true) (rNotInD K) := fun x y d e B H g Q0 Q rx ry rg ⟨a, ha, kx, ka, q⟩ c => by
  obtain ⟨h1, h2⟩ := fInD_dp rg.un ry.un ha ka
  exact ⟨_, _, rx.un.dp 64 kx, h1, okD_shaped kx, h2, by rw [pds_any]; exact c.here q (.bl _) rg⟩
end G3
/-! G3: what is walked, comprehensions, statements -/
namespace G3
open PySem L2

/-! ### tracking a new list -/
def wTrk (ta : TD) : TD := fun ρ g Q W => ta ρ g (fun r g1 => match r with | .tl ds => ∀ p, g1 p = none → Q (.v (.ref p)) (gup g1 p (.lst ds)) | _ => False) W
theorem Fr.track {H H' : Hp} {g g' : GH} {p : Addr} {o : DO} (f : Fr H g H' g') (hp : H p = none) : Fr H g H' (gup g' p o) :=
  ⟨fun b w h k => ⟨(f.keep b w h k).1, by rw [gup_ne (ne_of_none h hp)]; exact (f.keep b w h k).2⟩, f.dom⟩
section
variable {X : Cx} {e : Expr} {ta : TD} {E : L2.St → XK}
theorem trk_imp {K : PySem.W.Frag} {σ : L2.St} {H : Hp} {Q : VK} (h : LE K E (wTrk ta) σ H Q) : LE K E ta σ H Q :=
  match h with
  | ⟨B, ρ, g, Q0, W0, rs, rg, t, c, xc⟩ =>
    ⟨B, ρ, g, _, W0, rs, rg, t, fun r g1 x H1 hb rd rg1 f1 fr => by
      match r, rd, hb, fr with
      | .tl ds, rd, hb, fr =>
        obtain ⟨a, vs, H0, rfl, ha, hl, h0, rg0, r0⟩ := fr ds rfl
        have ga : g1 a = none := by cases rd with | lst _ k _ => exact k
        exact c _ _ _ _ (hb a ga) (.ref a) ⟨rg1.dom, RepG.track (by rw [hide_out (rg.new ha)]; exact hl) h0 rg0 (.lst r0)⟩ (f1.track ha) .no
      | .v _, rd, hb, fr => exact hb.elim, xc⟩
theorem q_trk (h : PE X e (LE X.K E ta)) : PE X e (LE X.K E (wTrk ta)) := PE.of h fun σ H Q h => trk_imp h
end

/-! ### what is walked -/
abbrev TID := DEnv → GH → (List D → (GH → Prop) → GH → Prop) → XKD → Prop
def ItOk (K : PySem.W.Frag) (B : List Addr) (H0 : Hp) (g0 : GH) (J : It) (ds : List D) (gd : GH → Prop) : Prop :=
  ∀ (B' : List Addr) i H g, (∀ b ∈ B, b ∈ B') → (∀ b ∈ B', b ∉ B → H0 b = none) → Vw K B' H g → Fr H0 g0 H g → gd g →
    (∀ d, ds[i]? = some d → J.go i H ∧ ∀ x H', J.yld i H x H' → Rep K (hide H' B') g x d ∧ Vw K B' H' g ∧ Fr H g H' g) ∧ (i = ds.length → J.stop i H)
def ContI (K : PySem.W.Frag) (B : List Addr) (H : Hp) (g : GH) (Q0 : List D → (GH → Prop) → GH → Prop) (R : It → Hp → Prop) : Prop :=
  ∀ ds gd g' J H', Q0 ds gd g' → ItOk K B H' g' J ds gd → Vw K B H' g' → Fr H g H' g' → R J H'
def LI (K : PySem.W.Frag) (E : L2.St → XK) (t : TID) : TI := fun σ H R => ∃ B ρ g Q0 W0, RepS K (hide H B) g σ ρ ∧ Vw K B H g ∧ t ρ g Q0 W0 ∧ ContI K B H g Q0 R ∧ XCont K B H g W0 (E σ)
theorem ContI.after {K : PySem.W.Frag} {B : List Addr} {H H1 : Hp} {g g1 : GH} {Q0 : List D → (GH → Prop) → GH → Prop} {R : It → Hp → Prop} (f : Fr H g H1 g1) (c : ContI K B H g Q0 R) : ContI K B H1 g1 Q0 R :=
  fun ds gd g' J H' q o rg f' => c ds gd g' J H' q o rg (f.trans f')
theorem PI.of {X : Cx} {tg e : Expr} {t t' : TI} (h : PI X tg e t') (i : ∀ σ H R, t σ H R → t' σ H R) : PI X tg e t := ⟨fun pins s σ H R I q => h.run pins s σ H R I (i σ H R q)⟩
/-- a list that is walked stands at each turn -/
def gdOf : R → List D → GH → Prop
  | .v (.ref a), xs, g => g a = some (.lst xs)
  | _, _, _ => True
def wSeqL (ta : TD) : TID := fun ρ g Q W => ta ρ g (fun r g1 => ∃ xs, lstOf g1 r xs ∧ Q xs (gdOf r xs) g1) W
def wSeqT (ta : TD) : TID := fun ρ g Q W => ta ρ g (fun r g1 => ∃ xs, tupOf r xs ∧ Q xs (fun _ => True) g1) W
section
variable {X : Cx} {e tg : Expr} {ta : TD} {tr : TAD} {E : L2.St → XK} {K : PySem.W.Frag}
theorem hide_more {H : Hp} {B B' : List Addr} {b : Addr} {o : HO} (h : hide H B b = some o) (n : b ∈ B' → b ∉ B → H b = none) : b ∉ B' := fun m => by
  obtain ⟨h1, h2⟩ := of_hide h
  rw [n m h2] at h1; cases h1
/-- what is seen stays seen where more is hidden that wasn't there -/
theorem Rep.more {H0 H : Hp} {g0 g : GH} {B B' : List Addr} (w : Vw K B H0 g0) (f : Fr H0 g0 H g) (n : ∀ b ∈ B', b ∉ B → H0 b = none) {v : V} {d : D} (r : Rep K (hide H0 B) g0 v d) : Rep K (hide H B') g v d := by
  have k : ∀ b o, hide H0 B b = some o → g0 b = none → hide H B' b = some o ∧ g b = none := fun b o h gn => by
    obtain ⟨h1, h2⟩ := f.keep b o (of_hide h).1 gn
    exact ⟨by rw [hide_out (hide_more h fun m1 m2 => n b m1 m2)]; exact h1, h2⟩
  have nt : ∀ b o, hide H0 B b = some o → (∀ u, ¬ RepO K (hide H0 B) g0 o u) → g0 b = none := fun b o h z => w.rg.nt h z
  exact r.mono (fun a vs h => (k a _ h (nt a _ h fun u r => by cases r)).1) (fun a o u h => (k a _ h (nt a _ h fun u r => by cases r)).1) fun a vs h gn => k a _ h gn
theorem Reps.more {H0 H : Hp} {g0 g : GH} {B B' : List Addr} (w : Vw K B H0 g0) (f : Fr H0 g0 H g) (n : ∀ b ∈ B', b ∉ B → H0 b = none) : ∀ {v : List V} {d : List D}, Reps K (hide H0 B) g0 v d → Reps K (hide H B') g v d
  | _, _, .nil => .nil
  | _, _, .cons r t => .cons (r.more w f n) (Reps.more w f n t)
theorem RepS.more {H0 H : Hp} {g0 g : GH} {B B' : List Addr} (w : Vw K B H0 g0) (f : Fr H0 g0 H g) (n : ∀ b ∈ B', b ∉ B → H0 b = none) {σ : L2.St} {ρ : DEnv} (r : RepS K (hide H0 B) g0 σ ρ) : RepS K (hide H B') g σ ρ :=
  ⟨r.len, fun i d e => let ⟨v, h, q⟩ := r.at_ i d e; ⟨v, h, q.more w f n⟩⟩
theorem itL {B : List Addr} {H0 : Hp} {g0 : GH} {a : Addr} {vs : List V} {ds : List D} (h : H0 a = some (.lst vs)) (k : g0 a = none) (G : Vw K B H0 g0) (r : Reps K (hide H0 B) g0 vs ds) : ItOk K B H0 g0 (Itl K a) ds fun _ => True := fun B' i H g _ n rg f _ => by
  obtain ⟨h', k'⟩ := f.keep a _ h k
  have r' := r.more G f n
  refine ⟨fun d hd => ?_, fun hi => ⟨vs, .inl (.inl h'), by rw [r'.length, hi]; exact Nat.le_refl _⟩⟩
  obtain ⟨v, hv, q⟩ := r'.get hd
  refine ⟨⟨vs, v, .inl (.inl h'), hv⟩, fun x H' hy => ?_⟩
  obtain ⟨rfl, hx⟩ := hy
  have e := hx vs (.inl (.inl h'))
  rw [hv] at e; cases e
  exact ⟨q, rg, Fr.refl _ _⟩
theorem itR {B : List Addr} {H0 : Hp} {g0 : GH} {a : Addr} {ds : List D} : ItOk K B H0 g0 (Itl K a) ds fun g => g a = some (.lst ds) := fun B' i H g _ n rg f ga => by
  obtain ⟨u, hu, q⟩ := rg.rg a _ ga
  cases q with
  | @lst vs _ r' =>
    have hu := (of_hide hu).1
    refine ⟨fun d hd => ?_, fun hi => ⟨vs, .inl (.inl hu), by rw [r'.length, hi]; exact Nat.le_refl _⟩⟩
    obtain ⟨v, hv, q⟩ := r'.get hd
    refine ⟨⟨vs, v, .inl (.inl hu), hv⟩, fun x H' hy => ?_⟩
    obtain ⟨rfl, hx⟩ := hy
    have e := hx vs (.inl (.inl hu))
    rw [hv] at e; cases e
    exact ⟨q, rg, Fr.refl _ _⟩
theorem itT {B : List Addr} {H0 : Hp} {g0 : GH} {a : Addr} {vs : List V} {ds : List D} (h : SqT K (hide H0 B) a vs) (G : Vw K B H0 g0) (r : Reps K (hide H0 B) g0 vs ds) : ItOk K B H0 g0 (Itt K a) ds fun _ => True := fun B' i H g _ n rg f _ => by
  have h' : SqT K H a vs := (f.hd B).sqT G.rg h |> sqT_un
  have r' := r.more G f n
  refine ⟨fun d hd => ?_, fun hi => ⟨vs, h', by rw [r'.length, hi]; exact Nat.le_refl _⟩⟩
  obtain ⟨v, hv, q⟩ := r'.get hd
  refine ⟨⟨vs, v, h', hv⟩, fun x H' hy => ?_⟩
  obtain ⟨rfl, hx⟩ := hy
  have e := hx vs h'
  rw [hv] at e; cases e
  exact ⟨q, rg, Fr.refl _ _⟩
theorem lstOf.cases {B : List Addr} {H : Hp} {g : GH} {v : V} {r : R} {xs : List D} (G : Vw K B H g) (h : Rep K (hide H B) g v r.fz) (l : lstOf g r xs) : ∃ a vs, v = .ref a ∧ H a = some (.lst vs) ∧ Reps K (hide H B) g vs xs ∧ ItOk K B H g (Itl K a) xs (gdOf r xs) := by
  match r, h, l with
  | .tl ds, .lst h k q, l => cases l; exact ⟨_, _, rfl, (of_hide h).1, q, itL (of_hide h).1 k G q⟩
  | .v (.lst ds), .lst h k q, l => cases l; exact ⟨_, _, rfl, (of_hide h).1, q, itL (of_hide h).1 k G q⟩
  | .v (.ref a), .ref _, l =>
    obtain ⟨u, hu, q⟩ := G.rg a _ l
    cases q with
    | lst q => exact ⟨a, _, rfl, (of_hide hu).1, q, itR⟩
theorem q_seqL (h : PI X tg e (iList X.K (LE X.K E ta))) : PI X tg e (LI X.K E (wSeqL ta)) :=
  PI.of h fun σ H R ⟨B, ρ, g, Q0, W0, rs, rg, t, c, xc⟩ =>
    ⟨B, ρ, g, _, W0, rs, rg, t, fun r g1 x H1 ⟨xs, hl, hq⟩ rd rg1 f1 _ => by
      obtain ⟨a, vs, rfl, ha, rv, io⟩ := lstOf.cases rg1 rd hl
      exact ⟨a, rfl, ⟨vs, .inl (.inl ha)⟩, c xs _ g1 _ H1 hq io rg1 f1⟩, xc⟩
theorem q_seqT (h : PI X tg e (iTup X.K (LE X.K E ta))) : PI X tg e (LI X.K E (wSeqT ta)) :=
  PI.of h fun σ H R ⟨B, ρ, g, Q0, W0, rs, rg, t, c, xc⟩ =>
    ⟨B, ρ, g, _, W0, rs, rg, t, fun r g1 x H1 ⟨xs, hl, hq⟩ rd rg1 f1 _ => by
      obtain ⟨a, vs, rfl, ha, rv⟩ := hl.rep rd
      exact ⟨a, rfl, ⟨vs, sqT_un ha⟩, c xs _ g1 _ H1 hq (itT ha rg1 rv) rg1 f1⟩, xc⟩
/-- a text's signs -/
def txtD (x : Str) : List D := x.cps.toList.map fun c => .str ⟨#[c]⟩
theorem itStr {B : List Addr} {H0 : Hp} {g0 : GH} {x : Str} : ItOk K B H0 g0 (Its x) (txtD x) fun _ => True := fun B' i H g _ _ rg f _ => by
  refine ⟨fun d hd => ?_, fun hi => by unfold txtD at hi; rw [List.length_map, Array.length_toList] at hi; exact Nat.le_of_eq hi.symm⟩
  unfold txtD at hd
  rw [List.getElem?_map] at hd
  obtain ⟨c, hc, rfl⟩ := Option.map_eq_some_iff.mp hd
  rw [Array.getElem?_toList] at hc
  have hi := (Array.getElem?_eq_some_iff.mp hc).1
  refine ⟨hi, fun y H' hy => ?_⟩
  obtain ⟨rfl, c', hc', rfl⟩ := hy
  rw [hc] at hc'; cases hc'
  exact ⟨.str _, rg, Fr.refl _ _⟩
def wText (ta : TD) : TID := fun ρ g Q W => ta ρ g (fun r g1 => match r with | .v (.str x) => Q (txtD x) (fun _ => True) g1 | _ => False) W
theorem q_text (h : PI X tg e (iStr (LE X.K E ta))) : PI X tg e (LI X.K E (wText ta)) :=
  PI.of h fun σ H R ⟨B, ρ, g, Q0, W0, rs, rg, t, c, xc⟩ =>
    ⟨B, ρ, g, _, W0, rs, rg, t, fun r g1 x H1 hq rd rg1 f1 _ => by
      match r, rd, hq with
      | .v (.str z), rd, hq =>
        cases rd
        exact ⟨z, rfl, c _ _ g1 _ H1 hq itStr rg1 f1⟩, xc⟩
/-- lo, lo + 1, .. -/
def rngD (lo : Int) (n : Nat) : List D := (List.range n).map fun (i : Nat) => D.int (lo + i)
theorem itRng {B : List Addr} {H0 : Hp} {g0 : GH} {lo : Int} {n : Nat} : ItOk K B H0 g0 (Itr lo n) (rngD lo n) fun _ => True := fun B' i H g _ _ rg f _ => by
  refine ⟨fun d hd => ?_, fun hi => by unfold rngD at hi; rw [List.length_map, List.length_range] at hi; exact Nat.le_of_eq hi.symm⟩
  unfold rngD at hd
  rw [List.getElem?_map] at hd
  by_cases hi : i < n
  · rw [List.getElem?_range hi] at hd
    cases hd
    exact ⟨hi, fun x H' hy => by
      obtain ⟨rfl, rfl⟩ := hy
      exact ⟨.int _, rg, Fr.refl _ _⟩⟩
  · rw [List.getElem?_eq_none (by rw [List.length_range]; omega)] at hd
    cases hd
def wRng1 (tr : TAD) : TID := fun ρ g Q W => tr ρ g (fun ds g1 => match ds with | [.int j] => -(2 ^ 62) ≤ j ∧ j < 2 ^ 62 ∧ Q (rngD 0 j.toNat) (fun _ => True) g1 | _ => False) W
def wRng2 (tr : TAD) : TID := fun ρ g Q W => tr ρ g (fun ds g1 => match ds with | [.int i, .int j] => (-(2 ^ 62) ≤ i ∧ i < 2 ^ 62 ∧ -(2 ^ 62) ≤ j ∧ j < 2 ^ 62) ∧ Q (rngD i (j - i).toNat) (fun _ => True) g1 | _ => False) W
theorem q_rng1 (h : PI X tg e (iRng1 (LA X.K E tr))) : PI X tg e (LI X.K E (wRng1 tr)) :=
  PI.of h fun σ H R ⟨B, ρ, g, Q0, W0, rs, rg, t, c, xc⟩ =>
    ⟨B, ρ, g, _, W0, rs, rg, t, fun ds g1 vs H1 hq rd rg1 f1 => by
      dsimp only at hq
      split at hq
      · cases rd with
        | cons r1 r2 =>
          cases r2
          exact ⟨_, by rw [int_of r1], hq.1, hq.2.1, c _ _ g1 _ H1 hq.2.2 itRng rg1 f1⟩
      · exact hq.elim, xc⟩
theorem q_rng2 (h : PI X tg e (iRng2 (LA X.K E tr))) : PI X tg e (LI X.K E (wRng2 tr)) :=
  PI.of h fun σ H R ⟨B, ρ, g, Q0, W0, rs, rg, t, c, xc⟩ =>
    ⟨B, ρ, g, _, W0, rs, rg, t, fun ds g1 vs H1 hq rd rg1 f1 => by
      dsimp only at hq
      split at hq
      · cases rd with
        | cons r1 r2 =>
          cases r2 with
          | cons r2 r3 =>
            cases r3
            exact ⟨_, _, by rw [int_of r1, int_of r2], hq.1, c _ _ g1 _ H1 hq.2 itRng rg1 f1⟩
      · exact hq.elim, xc⟩
end

/-! ### targets of a loop: a name, or a tuple of names -/
def setAll (ρ : DEnv) : List Nat → List D → DEnv
  | i :: is, d :: ds => setAll (ρ.set i (some d)) is ds
  | _, _ => ρ
inductive Tg where
  | nm (i : Nat) | tp (is : List Nat)
  /-- of a list -/
  | tl (is : List Nat)
def tgB : Tg → D → DEnv → (DEnv → Prop) → Prop
  | .nm i, d, ρ, Q => Q (ρ.set i (some d))
  | .tp is, .tup ds, ρ, Q => is.length = ds.length ∧ Q (setAll ρ is ds)
  | .tl is, .lst ds, ρ, Q => is.length = ds.length ∧ Q (setAll ρ is ds)
  | .tl _, _, _, _ => False
  | .tp _, _, _, _ => False
def gNames : List Nat → TGs
  | [] => gNil
  | i :: is => gCons (gName i) (gNames is)
def gTg (K : PySem.W.Frag) : Tg → TG
  | .nm i => gName i
  | .tp is => gTup K is.length (gNames is)
  | .tl is => gLst K is.length (gNames is)
section
variable {K : PySem.W.Frag}
theorem gNames_ok {B : List Addr} {H : Hp} {g : GH} : ∀ {is : List Nat} {vs : List V} {ds : List D} {σ : L2.St} {ρ : DEnv} {Q : L2.St → Hp → Prop} {Q0 : DEnv → Prop}, is.length = ds.length → Reps K (hide H B) g vs ds → RepS K (hide H B) g σ ρ → Q0 (setAll ρ is ds) →
    (∀ σ' ρ', Q0 ρ' → RepS K (hide H B) g σ' ρ' → (∀ js : List Nat, (∀ j ∈ is, j ∈ js) → wipe σ' js = wipe σ js) → Q σ' H) → gNames is vs σ H Q
  | [], _, _, σ, ρ, Q, Q0, hl, r, rs, q, k => by
    cases r with
    | nil => exact ⟨rfl, k σ ρ q rs fun _ _ => rfl⟩
    | cons _ _ => simp at hl
  | i :: is, _, _, σ, ρ, Q, Q0, hl, r, rs, q, k => by
    cases r with
    | nil => simp at hl
    | cons r1 r2 =>
      refine ⟨_, _, rfl, ?_⟩
      refine gNames_ok (is := is) (Q0 := Q0) (by simpa using hl) r2 (rs.set r1) q fun σ' ρ' h1 h2 h3 => k σ' ρ' h1 h2 fun js hj => ?_
      rw [h3 js fun j m => hj j (List.mem_cons_of_mem _ m)]
      exact wipe_set (hj i List.mem_cons_self)
where
  wipe_set {σ : L2.St} {i : Nat} {v : Option V} : ∀ {js : List Nat}, i ∈ js → wipe (σ.set i v) js = wipe σ js
  | [], h => by simp at h
  | j :: js, h => by
    unfold wipe
    by_cases hm : i ∈ js
    · rw [wipe_set hm]
    · have e : i = j := by
        rcases List.mem_cons.mp h with e | e
        · exact e
        · exact absurd e hm
      subst e
      rw [wipe_comm hm, List.set_set]
  wipe_comm {σ : L2.St} {i : Nat} {v : Option V} : ∀ {js : List Nat}, i ∉ js → wipe (σ.set i v) js = (wipe σ js).set i v
  | [], _ => rfl
  | j :: js, h => by
    unfold wipe
    have h1 : i ≠ j := fun e => h (by rw [e]; exact List.mem_cons_self)
    rw [wipe_comm fun m => h (List.mem_cons_of_mem _ m), List.set_comm _ _ h1]
def Tg.all : Tg → List Nat
  | .nm i => [i]
  | .tp is => is
  | .tl is => is
theorem gTg_ok {B : List Addr} {H : Hp} {g : GH} {tg : Tg} {v : V} {d : D} {σ : L2.St} {ρ : DEnv} {Q : L2.St → Hp → Prop} {Q0 : DEnv → Prop} (r : Rep K (hide H B) g v d) (rs : RepS K (hide H B) g σ ρ) (q : tgB tg d ρ Q0)
    (k : ∀ σ' ρ', Q0 ρ' → RepS K (hide H B) g σ' ρ' → (∀ js : List Nat, (∀ j ∈ tg.all, j ∈ js) → wipe σ' js = wipe σ js) → Q σ' H) : gTg K tg v σ H Q := by
  cases tg with
  | nm i => exact k _ _ q (rs.set r) fun js hj => gNames_ok.wipe_set (hj i List.mem_cons_self)
  | tp is =>
    cases d with
    | tup ds =>
      cases r with
      | @tup a vs _ ha rv => exact ⟨a, vs, rfl, .inl (.inl (of_hide ha).1), by rw [rv.length, q.1], gNames_ok q.1 rv rs q.2 k⟩
    | _ => exact q.elim
  | tl is =>
    cases d with
    | lst ds =>
      cases r with
      | @lst a vs _ ha _ rv => exact ⟨a, vs, rfl, .inl (.inl (of_hide ha).1), by rw [rv.length, q.1], gNames_ok q.1 rv rs q.2 k⟩
    | _ => exact q.elim
end

/-! ### list comprehensions -/
/-- st: a turn, none where the item is left out -/
def compW (gd : GH → Prop) (st : D → GH → (Option R → GH → Prop) → Prop) : List D → List D → GH → (List D → GH → Prop) → Prop
  | [], acc, g, Q => gd g ∧ Q acc g
  | d :: ds, acc, g, Q => gd g ∧ acc.length < sizeLine ∧ st d g fun o g1 => match o with | some r => compW gd st ds (acc ++ [r.fz]) g1 Q | none => compW gd st ds acc g1 Q
def noX : XKD := fun _ _ => False
def compT (own : List Nat) (tg : Tg) (tc : TTD) (te : TD) (ρ : DEnv) (d : D) (g : GH) (P : Option R → GH → Prop) : Prop :=
  tgB tg d (wipeD ρ own) fun ρ' => tc ρ' g (fun b g1 => if b = true then te ρ' g1 (fun r g2 => P (some r) g2) noX else P none g1) noX
/-- own: the slots of the block's own names -/
def wComp (own : List Nat) (ti : TID) (tg : Tg) (tc : TTD) (te : TD) : TD := fun ρ g Q W => ti ρ g (fun ds gd g1 => compW gd (compT own tg tc te ρ) ds [] g1 fun ys g2 => Q (.tl ys) g2) W
def wYes : TTD := fun _ g Q _ => Q true g
theorem wYes_ok {K : PySem.W.Frag} {E : L2.St → XK} {σ : L2.St} {H : Hp} {Q : Bool → Hp → Prop} (h : LT K E wYes σ H Q) : tYes σ H Q := by
  obtain ⟨B, ρ, g, Q0, W0, rs, rg, t, c, xc⟩ := h
  exact c true g H t rg (Fr.refl _ _)
abbrev E0s : L2.St → XK := fun _ _ _ _ => False
theorem wipe_len {σ : L2.St} : ∀ {js : List Nat}, (wipe σ js).length = σ.length
  | [] => rfl
  | j :: js => by unfold wipe; rw [List.length_set, wipe_len]
theorem wipe_get {σ : L2.St} {i : Nat} : ∀ {js : List Nat}, i ∈ js → i < σ.length → (wipe σ js)[i]? = some none
  | [], h, _ => by simp at h
  | j :: js, h, hi => by
    unfold wipe
    by_cases e : j = i
    · subst e; exact List.getElem?_set_self (by rw [wipe_len]; exact hi)
    · rw [List.getElem?_set_ne e]
      exact wipe_get ((List.mem_cons.mp h).resolve_left fun z => e z.symm) hi
theorem wipe_wipe {σ : L2.St} {js : List Nat} : wipe (wipe σ js) js = wipe σ js := by
  have : ∀ ks : List Nat, (∀ k ∈ ks, k ∈ js) → wipe (wipe σ js) ks = wipe σ js := by
    intro ks
    induction ks with
    | nil => intro _; rfl
    | cons k ks ih =>
      intro h
      show (wipe (wipe σ js) ks).set k none = wipe σ js
      rw [ih fun z hz => h z (List.mem_cons_of_mem _ hz)]
      by_cases hk : k < σ.length
      · refine List.ext_getElem? fun n => ?_
        by_cases e : k = n
        · subst e
          rw [List.getElem?_set_self (by rw [wipe_len]; exact hk), wipe_get (h k List.mem_cons_self) hk]
        · rw [List.getElem?_set_ne e]
      · exact List.set_eq_of_length_le (by rw [wipe_len]; exact Nat.le_of_not_lt hk)
  exact this js fun _ h => h
section
variable {X : Cx} {e : Expr} {tc : TTD} {te : TD} {ti : TID} {E : L2.St → XK} {tg : Tg} {own : List Nat}
theorem comp_imp {K : PySem.W.Frag} (hown : ∀ j ∈ tg.all, j ∈ own) {σ : L2.St} {H : Hp} {Q : VK} (h : LE K E (wComp own ti tg tc te) σ H Q) : tLc (LI K E ti) (gTg K tg) (LT K E0s tc) (LE K E0s te) own σ H Q := by
  obtain ⟨B, ρ, g, Q0, W0, rs, rg, t, c, xc⟩ := h
  refine ⟨B, ρ, g, _, W0, rs, rg, t, fun ds gd g1 J H1 hq io rg1 f1 D hD => ?_, xc⟩
  have c1 := c.after f1
  have rs1 := rs.fv rg f1
  have nD : D ∉ B := rg1.new hD
  have nB : ∀ b ∈ D :: B, b ∉ B → H1 b = none := fun b h1 h2 => by
    rcases List.mem_cons.mp h1 with e | e
    · rw [e]; exact hD
    · exact absurd e h2
  -- what stands at each turn: D holds what is made so far, hidden from all else
  refine ⟨fun i m H' => m = ds.length - i ∧ i ≤ ds.length ∧ ∃ g' acc vs, H' D = some (.lst vs) ∧ g' D = none ∧ Vw K (D :: B) H' g' ∧ Fr H1 g1 H' g' ∧ Reps K (hide H' (D :: B)) g' vs acc ∧
      compW gd (compT own tg tc te ρ) (ds.drop i) acc g' fun ys g2 => Q0 (.tl ys) g2, ⟨ds.length, by simp, Nat.zero_le _, g1, [], [], upd_same, (Fr.laidV (u := .lst []) hD rg1).2.2, ?_, (Fr.laidV hD rg1).1, .nil, hq⟩, ?_⟩
  · refine ⟨fun b m => ?_, fun a o e => ?_⟩
    · rcases List.mem_cons.mp m with e | e
      · exact ⟨[], by subst e; rw [upd_same]⟩
      · exact (Fr.laidV (u := .lst []) hD rg1).2.1.dom b e
    · obtain ⟨u, hu, r⟩ := rg1.rg a o e
      have ha : a ∉ D :: B := hide_more hu fun m1 m2 => nB a m1 m2
      exact ⟨u, by rw [hide_out ha, upd_ne (ne_of_none (of_hide hu).1 hD)]; exact (of_hide hu).1, r.mono fun _ _ x => x.more rg1 (Fr.laidV hD rg1).1 nB⟩
  rintro i m H' ⟨rfl, hi, g', acc, vs, hH, gD, w', f', ra, hw⟩
  have sB : ∀ b ∈ B, b ∈ D :: B := fun b m => List.mem_cons_of_mem _ m
  by_cases hl : i = ds.length
  · subst hl
    rw [List.drop_length] at hw
    refine .inl ⟨(io _ _ _ g' sB nB w' f' hw.1).2 rfl, ?_⟩
    have hs : ∀ b u, hide H' (D :: B) b = some u → b ≠ D ∧ hide H' B b = some u := fun b u h => by
      obtain ⟨h1, h2⟩ := of_hide h
      exact ⟨fun e => h2 (by rw [e]; exact List.mem_cons_self), by rw [hide_out fun m => h2 (List.mem_cons_of_mem _ m)]; exact h1⟩
    have un : ∀ v d, Rep K (hide H' (D :: B)) g' v d → Rep K (hide H' B) g' v d := fun v d r => r.mono (fun a vs h => (hs _ _ h).2) (fun a o u h => (hs _ _ h).2) fun a vs h k => ⟨(hs _ _ h).2, k⟩
    have wB : Vw K B H' g' := ⟨fun b m => w'.dom b (sB b m), fun a o e => by
      obtain ⟨u, hu, r⟩ := w'.rg a o e
      exact ⟨u, (hs _ _ hu).2, r.mono un⟩⟩
    refine c1 (.tl acc) g' (.ref D) H' hw.2 (.lst (by rw [hide_out nD]; exact hH) gD (ra.monoR un)) wB f' fun ds' e => ?_
    cases e
    exact ⟨D, vs, hide H' (D :: B), rfl, hD, hH, hs, w'.rg, ra⟩
  · have hi' : i < ds.length := by omega
    rw [List.drop_eq_getElem_cons hi'] at hw
    obtain ⟨hg, hz, hw⟩ := hw
    obtain ⟨go, yl⟩ := (io (D :: B) i _ g' sB nB w' f' hg).1 _ (List.getElem?_eq_getElem hi')
    refine .inr ⟨go, fun H'' => ∃ g'' acc' vs', H'' D = some (.lst vs') ∧ g'' D = none ∧ Vw K (D :: B) H'' g'' ∧ Fr H1 g1 H'' g'' ∧ Reps K (hide H'' (D :: B)) g'' vs' acc' ∧
      compW gd (compT own tg tc te ρ) (ds.drop (i + 1)) acc' g'' fun ys g2 => Q0 (.tl ys) g2, fun H'' w => ⟨ds.length - (i + 1), by omega, rfl, hi', w⟩, fun x H3 hy => ?_⟩
    obtain ⟨rx, w3, f3⟩ := yl x H3 hy
    have rsw : RepS K (hide H3 (D :: B)) g' (wipe σ own) (wipeD ρ own) := (rs1.more rg1 (f'.trans f3) nB).wipe own
    refine gTg_ok rx rsw hw fun σ2 ρ2 q2 rs2 hwi => ⟨by rw [hwi own hown, wipe_wipe], ?_⟩
    have k3 := f3.keep D _ hH gD
    refine ⟨D :: B, ρ2, g', _, noX, rs2, w3, q2, fun b g4 H4 hb w4 f4 => ?_, fun x g'' cls d H' z => z.elim⟩
    have k4 := f4.keep D _ k3.1 k3.2
    cases b with
    | false =>
      exact ⟨g4, acc, vs, k4.1, k4.2, w4, f'.trans (f3.trans f4), ra.fv w' (f3.trans f4), hb⟩
    | true =>
      refine ⟨D :: B, ρ2, g4, _, noX, rs2.fv w3 f4, w4, hb, fun r g5 y H5 hr ry w5 f5 _ => ?_, fun x g'' cls d H' z => z.elim⟩
      have k5 := f5.keep D _ k4.1 k4.2
      have ra5 := ra.fv w' (f3.trans (f4.trans f5))
      refine ⟨vs, k5.1, by rw [ra5.length]; exact hz, g5, acc ++ [r.fz], vs ++ [y], upd_same, k5.2, ?_, ?_, ?_, hr⟩
      · have e : hide (upd H5 D (.lst (vs ++ [y]))) (D :: B) = hide H5 (D :: B) := by
          funext b
          by_cases m : b ∈ D :: B
          · rw [hide_in m, hide_in m]
          · rw [hide_out m, hide_out m, upd_ne fun e => m (by rw [e]; exact List.mem_cons_self)]
        refine ⟨fun b m => ?_, by rw [e]; exact w5.rg⟩
        by_cases eb : b = D
        · exact ⟨vs ++ [y], by rw [eb, upd_same]⟩
        · obtain ⟨us, eu⟩ := w5.dom b m
          exact ⟨us, by rw [upd_ne eb]; exact eu⟩
      · have f6 := f'.trans (f3.trans (f4.trans f5))
        refine ⟨fun b o h k => ?_, fun b h => ?_⟩
        · have q := f6.keep b o h k
          exact ⟨by rw [upd_ne (ne_of_none h hD)]; exact q.1, q.2⟩
        · unfold upd; split
          · simp
          · exact f6.dom b h
      · have e : hide (upd H5 D (.lst (vs ++ [y]))) (D :: B) = hide H5 (D :: B) := by
          funext b
          by_cases m : b ∈ D :: B
          · rw [hide_in m, hide_in m]
          · rw [hide_out m, hide_out m, upd_ne fun e => m (by rw [e]; exact List.mem_cons_self)]
        rw [e]
        exact ra5.append (.one ry)
theorem q_comp (hown : ∀ j ∈ tg.all, j ∈ own) (h : PE X e (tLc (LI X.K E ti) (gTg X.K tg) (LT X.K E0s tc) (LE X.K E0s te) own)) : PE X e (LE X.K E (wComp own ti tg tc te)) := PE.of h fun σ H Q h => comp_imp hown h
end
end G3
/-! G3: statements -/
namespace G3
open PySem L2

structure DEnds where
  nx : DEnv → GH → Prop
  rt : QK
  ct : DEnv → GH → Prop
  ex : Exn → DEnv → GH → Prop
abbrev TSD := DEnds → DEnv → GH → Prop
structure ContS (K : PySem.W.Frag) (B : List Addr) (W : L2.WX) (H : Hp) (g : GH) (D0 : DEnds) (D : Ends) : Prop where
  nx : ∀ ρ' g' σ' H', D0.nx ρ' g' → RepS K (hide H' B) g' σ' ρ' → Vw K B H' g' → Fr H g H' g' → D.nx σ' H'
  rt : Cont K B H g D0.rt D.rt
  ct : ∀ ρ' g' σ' H', D0.ct ρ' g' → RepS K (hide H' B) g' σ' ρ' → Vw K B H' g' → Fr H g H' g' → D.ct σ' H'
  ex : ∀ x ρ' g' cls d σ' H', D0.ex x ρ' g' → ExOk K (hide H' B) g' x cls d → RepS K (hide H' B) g' σ' ρ' → Vw K B H' g' → Fr H g H' g' → W cls d σ' H'
def LS (K : PySem.W.Frag) (W : L2.WX) (t : TSD) : TS := fun D σ H => ∃ B ρ g D0, RepS K (hide H B) g σ ρ ∧ Vw K B H g ∧ t D0 ρ g ∧ ContS K B W H g D0 D
section
variable {K : PySem.W.Frag} {B : List Addr} {W : L2.WX} {H H1 : Hp} {g g1 : GH} {D0 : DEnds} {D : Ends} {σ : L2.St} {ρ : DEnv}
theorem ContS.after (f : Fr H g H1 g1) (c : ContS K B W H g D0 D) : ContS K B W H1 g1 D0 D :=
  ⟨fun ρ' g' σ' H' q r w f' => c.nx ρ' g' σ' H' q r w (f.trans f'), c.rt.after f, fun ρ' g' σ' H' q r w f' => c.ct ρ' g' σ' H' q r w (f.trans f'),
   fun x ρ' g' cls d σ' H' q xo r w f' => c.ex x ρ' g' cls d σ' H' q xo r w (f.trans f')⟩
theorem ContS.xc (c : ContS K B W H g D0 D) (rs : RepS K (hide H B) g σ ρ) (w : Vw K B H g) : XCont K B H g (fun x g' => D0.ex x ρ g') (WE W σ) :=
  fun x g' cls d H' q xo w' f => c.ex x ρ g' cls d σ H' q xo (rs.fv w f) w' f
end
theorem PS.of {X : Cx} {st : Stmt} {t t' : TS} (h : PS X st t') (i : ∀ D σ H, t D σ H → t' D σ H) : PS X st t := ⟨fun pins s σ H D I q => h.run pins s σ H D I (i D σ H q)⟩
theorem PSs.of {X : Cx} {st : List Stmt} {t t' : TS} (h : PSs X st t') (i : ∀ D σ H, t D σ H → t' D σ H) : PSs X st t := ⟨fun pins s σ H D I q => h.run pins s σ H D I (i D σ H q)⟩

def wNx : TSD := fun D ρ g => D.nx ρ g
def wSq (t u : TSD) : TSD := fun D ρ g => t { D with nx := fun ρ' g' => u D ρ' g' } ρ g
def wIf (tc : TTD) (t u : TSD) : TSD := fun D ρ g => tc ρ g (fun b g1 => if b = true then t D ρ g1 else u D ρ g1) (fun x g1 => D.ex x ρ g1)
def wDrop (te : TD) : TSD := fun D ρ g => te ρ g (fun _ g1 => D.nx ρ g1) (fun x g1 => D.ex x ρ g1)
def wRet (te : TD) : TSD := fun D ρ g => te ρ g (fun r g1 => D.rt r g1) (fun x g1 => D.ex x ρ g1)
def wRetN : TSD := fun D _ g => D.rt (.v .non) g
def wCt : TSD := fun D ρ g => D.ct ρ g
/-- target = value: a name, a tuple of names -/
def wAsg (tg : Tg) (te : TD) : TSD := fun D ρ g => te ρ g (fun r g1 => tgB tg r.fz ρ (fun ρ' => D.nx ρ' g1)) (fun x g1 => D.ex x ρ g1)
/-- a turn of a loop, its end the next turn's start -/
def forW (gd : GH → Prop) (tg : Tg) (tb : TSD) (De : DEnds) : List D → DEnv → GH → Prop
  | [], ρ, g => gd g ∧ De.nx ρ g
  | d :: ds, ρ, g => gd g ∧ tgB tg d ρ fun ρ1 => tb { De with nx := fun ρ' g' => forW gd tg tb De ds ρ' g', ct := fun ρ' g' => forW gd tg tb De ds ρ' g' } ρ1 g
def wFor (ti : TID) (tg : Tg) (tb : TSD) : TSD := fun D ρ g => ti ρ g (fun ds gd g1 => forW gd tg tb D ds ρ g1) (fun x g1 => D.ex x ρ g1)
/-- a while loop of at most so many turns -/
def whlW (tc : TTD) (tb : TSD) (D : DEnds) : Nat → DEnv → GH → Prop
  | 0, _, _ => False
  | n + 1, ρ, g => tc ρ g (fun b g1 => if b = true then tb { D with nx := fun ρ' g' => whlW tc tb D n ρ' g', ct := fun ρ' g' => whlW tc tb D n ρ' g' } ρ g1 else D.nx ρ g1) (fun x g1 => D.ex x ρ g1)
def wWhl (tc : TTD) (tb : TSD) : TSD := fun D ρ g => ∃ n, whlW tc tb D n ρ g
/-- a tracked list that will not change any more -/
def wFrz (i : Nat) (t : TSD) : TSD := fun D ρ g => match ρ[i]? with
  | some (some (.ref a)) => ∃ ds g', g a = some (.lst ds) ∧ (∀ b o, g' b = some o → g b = some o) ∧ g' a = none ∧ t D (ρ.set i (some (.lst ds))) g'
  | _ => False

section
variable {X : Cx} {st : Stmt} {rest : List Stmt} {t u tb : TSD} {e c : Expr} {te : TD} {tc : TTD} {ti : TID} {W : L2.WX} {tg : Tg} {pos : Pos}
theorem s_nil : PSs X [] (LS X.K W wNx) := PSs.of pss_nil fun D σ H ⟨B, ρ, g, D0, rs, w, t, k⟩ => k.nx ρ g σ H t rs w (Fr.refl _ _)
theorem s_cons (h1 : PS X st (LS X.K W t)) (h2 : PSs X rest (LS X.K W u)) : PSs X (st :: rest) (LS X.K W (wSq t u)) :=
  PSs.of (pss_cons h1 h2) fun D σ H ⟨B, ρ, g, D0, rs, w, q, k⟩ =>
    ⟨B, ρ, g, _, rs, w, q, ⟨fun ρ' g' σ' H' q' r' w' f' => ⟨B, ρ', g', D0, r', w', q', k.after f'⟩, k.rt, k.ct, k.ex⟩⟩
theorem s_if {a b : List Stmt} (hc : PT X c (LT X.K (WE W) tc)) (ha : PSs X a (LS X.K W t)) (hb : PSs X b (LS X.K W u)) : PS X (.If c a b pos) (LS X.K W (wIf tc t u)) :=
  PS.of (ps_if hc ha hb) fun D σ H ⟨B, ρ, g, D0, rs, w, q, k⟩ =>
    ⟨B, ρ, g, _, _, rs, w, q, fun b g1 H1 hb w1 f1 => by
      cases b with
      | true => exact ⟨B, ρ, g1, D0, rs.fv w f1, w1, hb, k.after f1⟩
      | false => exact ⟨B, ρ, g1, D0, rs.fv w f1, w1, hb, k.after f1⟩, k.xc rs w⟩
theorem s_expr (h : PS X st (tDrop (LE X.K (WE W) te))) : PS X st (LS X.K W (wDrop te)) :=
  PS.of h fun D σ H ⟨B, ρ, g, D0, rs, w, q, k⟩ =>
    ⟨B, ρ, g, _, _, rs, w, q, fun r g1 v H1 hq _ w1 f1 _ => k.nx ρ g1 σ H1 hq (rs.fv w f1) w1 f1, k.xc rs w⟩
theorem s_ret (h : PE X e (LE X.K (WE W) te)) : PS X (.Return (some e) pos) (LS X.K W (wRet te)) :=
  PS.of (ps_ret h) fun D σ H ⟨B, ρ, g, D0, rs, w, q, k⟩ => ⟨B, ρ, g, _, _, rs, w, q, k.rt, k.xc rs w⟩
theorem s_retN : PS X (.Return none pos) (LS X.K W wRetN) := PS.of ps_retN fun D σ H ⟨B, ρ, g, D0, rs, w, q, k⟩ => k.rt.here q .non w
theorem s_ct : PS X (.Continue pos) (LS X.K W wCt) := PS.of ps_continue fun D σ H ⟨B, ρ, g, D0, rs, w, q, k⟩ => k.ct ρ g σ H q rs w (Fr.refl _ _)
theorem s_asg {te' : TE} (hi : ∀ σ H Q, LE X.K (WE W) te σ H Q → te' σ H Q) (h : PS X st (tAsg te' (gTg X.K tg))) : PS X st (LS X.K W (wAsg tg te)) :=
  PS.of h fun D σ H ⟨B, ρ, g, D0, rs, w, q, k⟩ => hi _ _ _
    ⟨B, ρ, g, _, _, rs, w, q, fun r g1 v H1 hq rv w1 f1 _ => gTg_ok rv (rs.fv w f1) hq fun σ' ρ' q' r' _ => k.nx ρ' g1 σ' H1 q' r' w1 f1, k.xc rs w⟩
theorem s_for (h : PS X st (tFor (LI X.K (WE W) ti) (gTg X.K tg) (LS X.K W tb))) : PS X st (LS X.K W (wFor ti tg tb)) := by
  refine PS.of h fun D σ H ⟨B, ρ, g, D0, rs, w, q, k⟩ => ⟨B, ρ, g, _, _, rs, w, q, fun ds gd g1 J H1 hq io w1 f1 => ?_, k.xc rs w⟩
  refine ⟨fun i m σ' H' => m = ds.length - i ∧ i ≤ ds.length ∧ ∃ ρ' g', RepS X.K (hide H' B) g' σ' ρ' ∧ Vw X.K B H' g' ∧ Fr H1 g1 H' g' ∧ forW gd tg tb D0 (ds.drop i) ρ' g',
    ⟨ds.length, by simp, Nat.zero_le _, ρ, g1, rs.fv w f1, w1, Fr.refl _ _, hq⟩, ?_⟩
  rintro i m σ' H' ⟨rfl, hi, ρ', g', rs', w', f', hw⟩
  by_cases hl : i = ds.length
  · subst hl
    rw [List.drop_length] at hw
    exact .inl ⟨(io _ _ _ g' (fun _ m => m) (fun _ m n => absurd m n) w' f' hw.1).2 rfl, k.nx ρ' g' σ' H' hw.2 rs' w' (f1.trans f')⟩
  · have hi' : i < ds.length := by omega
    rw [List.drop_eq_getElem_cons hi'] at hw
    obtain ⟨hg, hw⟩ := hw
    obtain ⟨go, yl⟩ := (io B i _ g' (fun _ m => m) (fun _ m n => absurd m n) w' f' hg).1 _ (List.getElem?_eq_getElem hi')
    refine .inr ⟨go, fun σ2 H2 => ∃ ρ2 g2, RepS X.K (hide H2 B) g2 σ2 ρ2 ∧ Vw X.K B H2 g2 ∧ Fr H1 g1 H2 g2 ∧ forW gd tg tb D0 (ds.drop (i + 1)) ρ2 g2, fun σ2 H2 z => ⟨ds.length - (i + 1), by omega, rfl, hi', z⟩, fun x H3 hy => ?_⟩
    obtain ⟨rx, w3, f3⟩ := yl x H3 hy
    refine gTg_ok rx (rs'.fv w' f3) hw fun σ2 ρ2 q2 rs2 _ => ?_
    refine ⟨B, ρ2, g', _, rs2, w3, q2, ⟨fun ρ4 g4 σ4 H4 q4 r4 w4 f4 => ⟨ρ4, g4, r4, w4, f'.trans (f3.trans f4), q4⟩, k.rt.after (f1.trans (f'.trans f3)),
      fun ρ4 g4 σ4 H4 q4 r4 w4 f4 => ⟨ρ4, g4, r4, w4, f'.trans (f3.trans f4), q4⟩, (k.after (f1.trans (f'.trans f3))).ex⟩⟩
theorem s_whl (h : PS X st (tWhile (LT X.K (WE W) tc) (LS X.K W tb))) : PS X st (LS X.K W (wWhl tc tb)) := by
  refine PS.of h fun D σ H ⟨B, ρ, g, D0, rs, w, ⟨n, q⟩, k⟩ => ?_
  refine ⟨fun m σ' H' => ∃ ρ' g', RepS X.K (hide H' B) g' σ' ρ' ∧ Vw X.K B H' g' ∧ Fr H g H' g' ∧ whlW tc tb D0 m ρ' g', ⟨n, ρ, g, rs, w, Fr.refl _ _, q⟩, ?_⟩
  rintro m σ' H' ⟨ρ', g', rs', w', f', hw⟩
  cases m with
  | zero => exact hw.elim
  | succ m =>
    refine ⟨B, ρ', g', _, _, rs', w', hw, fun b g1 H1 hb w1 f1 => ?_, (k.after f').xc rs' w'⟩
    cases b with
    | false => exact k.nx ρ' g1 σ' H1 hb (rs'.fv w' f1) w1 (f'.trans f1)
    | true =>
      refine ⟨fun σ2 H2 => ∃ ρ2 g2, RepS X.K (hide H2 B) g2 σ2 ρ2 ∧ Vw X.K B H2 g2 ∧ Fr H g H2 g2 ∧ whlW tc tb D0 m ρ2 g2, fun σ2 H2 z => ⟨m, Nat.lt_succ_self _, z⟩, ?_⟩
      have f2 := f'.trans f1
      exact ⟨B, ρ', g1, _, rs'.fv w' f1, w1, hb, ⟨fun ρ4 g4 σ4 H4 q4 r4 w4 f4 => ⟨ρ4, g4, r4, w4, f2.trans f4, q4⟩, k.rt.after f2,
        fun ρ4 g4 σ4 H4 q4 r4 w4 f4 => ⟨ρ4, g4, r4, w4, f2.trans f4, q4⟩, (k.after f2).ex⟩⟩
/-- less is tracked -/
theorem Vw.less {K : PySem.W.Frag} {B : List Addr} {H : Hp} {g g' : GH} (s : ∀ b o, g' b = some o → g b = some o) (w : Vw K B H g) : Vw K B H g' :=
  ⟨w.dom, fun a o e => by
    obtain ⟨u, hu, r⟩ := w.rg a o (s a o e)
    exact ⟨u, hu, r.mono fun _ _ x => x.mono (fun _ _ h => h) (fun _ _ _ h => h) fun b vs h k => ⟨h, by
      cases q : g' b with
      | none => rfl
      | some o => rw [s b o q] at k; cases k⟩⟩⟩
theorem none_less {g g' : GH} (s : ∀ b o, g' b = some o → g b = some o) {b : Addr} (k : g b = none) : g' b = none := by
  cases q : g' b with
  | none => rfl
  | some o => rw [s b o q] at k; cases k
theorem Fr.less {H : Hp} {g g' : GH} (s : ∀ b o, g' b = some o → g b = some o) : Fr H g H g' := ⟨fun b o h k => ⟨h, none_less s k⟩, fun _ h => h⟩
theorem s_frz {i : Nat} (h : PSs X rest (LS X.K W t)) : PSs X rest (LS X.K W (wFrz i t)) :=
  PSs.of h fun D σ H ⟨B, ρ, g, D0, rs, w, q, k⟩ => by
    unfold wFrz at q
    split at q
    · rename_i a ha
      obtain ⟨ds, g', hg, s, hn, q⟩ := q
      obtain ⟨v, hv, r⟩ := rs.at_ i _ ha
      cases r
      obtain ⟨u, hu, r⟩ := w.rg a _ hg
      cases r with
      | @lst vs _ r =>
        have m : ∀ v d, Rep X.K (hide H B) g v d → Rep X.K (hide H B) g' v d := fun v d x => x.mono (fun _ _ h => h) (fun _ _ _ h => h) fun b vs h k => ⟨h, none_less s k⟩
        refine ⟨B, ρ.set i (some (.lst ds)), g', D0, ⟨by simp [rs.len], fun j d hj => ?_⟩, w.less s, q, k.after (Fr.less s)⟩
        by_cases e : i = j
        · subst e
          have hi : i < ρ.length := (List.getElem?_eq_some_iff.mp ha).1
          rw [List.getElem?_set_self hi] at hj
          cases hj
          exact ⟨_, hv, .lst hu hn (r.monoR m)⟩
        · rw [List.getElem?_set_ne e] at hj
          obtain ⟨v, h1, h2⟩ := rs.at_ j d hj
          exact ⟨v, h1, m _ _ h2⟩
    · exact q.elim
end
end G3
/-! G3: enumerate of a tuple, of a list; zip -/
namespace PySem
open PySem.Spec PyProof
/-- enumerate(v), v anything that begins -/
theorem g3_enum_new {v : Value} {o : Obj} {H : Heap → Prop} (B : Begins v o H) :
    Meets (Builtin.«enumerate.__new__» ⟨[.type "enumerate", v], []⟩) (fun _ R s => H s.heap ∧
      R (.ok (.ret (.ref (s.heap.push o).objs.size))) { s with heap := (s.heap.push o).push { cls := .type "enumerate", data := .fields #[.none, .bool false, .ref s.heap.objs.size, rawInt 0, .none, .none] } }) :=
  .of_wp fun prog w A R s h => by
    obtain ⟨hp, g, d, tk, os⟩ := s; obtain ⟨h1, h⟩ := h
    have hsub := sub_enumerate
    have q1 : ∀ {A' : Around} {E : Value → Shared → Prop} {Q : Value → Shared → Prop}, Q (.ref hp.objs.size) ⟨hp.push o, g, d, tk, os⟩ → wpAny (model prog w) A' (pyIter v) Q E ⟨hp, g, d, tk, os⟩ :=
      fun q => B.iter prog w _ _ ⟨hp, g, d, tk, os⟩ _ h1 q
    wp_walk using q1
    first
    | exact ⟨_, rfl, h⟩
    | (refine wpAny_stack_any fun st => wpAny_pure ?_
       split
       · rename_i c _ _ _ _ _
         cases (c == Value.type "enumerate")
         · wp_walk using q1
           exact ⟨_, rfl, h⟩
         · wp_walk using q1
           exact ⟨_, rfl, h⟩
       · wp_walk using q1
         exact ⟨_, rfl, h⟩)
section
variable {prog : Program} {w : World} {A : Around} {E : Value → Shared → Prop} {s : Shared}
theorem g3_enum_call {v : Value} {o : Obj} {H : Heap → Prop} {Q : Value → Shared → Prop} (B : Begins v o H) (h1 : H s.heap)
    (h : ∀ h', IsEnum h' (s.heap.objs.size + 1) s.heap.objs.size 0 .none → h'.get? s.heap.objs.size = some o → (∀ b o, s.heap.get? b = some o → h'.get? b = some o) → Q (.ref (s.heap.objs.size + 1)) { s with heap := h' }) :
    wpAny (model prog w) A (call (.type "enumerate") [v]) Q E s := by
  refine callType_new F.called_enumerate (by decide) (F.typeCall_enumerate_1 _) (F.newCall_enumerate_1 _) (fun obj => F.args_object_init_2 obj _) F.entry_enumerate_new (g3_enum_new B) ⟨h1, ?_⟩
  have hz : (s.heap.push o).objs.size = s.heap.objs.size + 1 := Heap.size_push ..
  have q := Heap.get?_push_size (s.heap.push o) (o := { cls := .type "enumerate", data := .fields #[.none, .bool false, .ref s.heap.objs.size, rawInt 0, .none, .none] }) rfl
  rw [hz] at q
  rw [hz]
  exact ⟨⟨_, q, rfl⟩, h _ q (Heap.get?_push_of_some _ (Heap.get?_push_size _ B.free)) fun b o x => Heap.get?_push_of_some _ (Heap.get?_push_of_some _ x)⟩
end
end PySem
namespace G3
open PySem L2
/-- a tuple's items, each in a new pair with its number -/
def IteT (K : PySem.W.Frag) (a : Addr) : It where
  go i H := ∃ (xs : List V) (x : V), SqT K H a xs ∧ xs[i]? = some x
  yld i H v H' := ∃ T x, v = .ref T ∧ H T = none ∧ H' = upd H T (.tup [.int (i : Nat), x]) ∧ ∀ xs, SqT K H a xs → xs[i]? = some x
  stop i H := ∃ xs : List V, SqT K H a xs ∧ xs.length = i
theorem turn_enumT {P : Program} {w : World} {K : PySem.W.Frag} {elts : List Expr} {kk : Nat} {tpos : Pos} (a e it : Addr) (hae : a ≠ e) (hai : a ≠ it) :
    Turn P w K (.Tuple elts kk tpos) (IteT K a) [e, it] e (fun i h => (∃ old, IsEnum h e it ((i : Nat) : Int) old) ∧ h.IsTupleIter it a i ∧ e ≠ it) where
  mem := by simp
  obj := by
    rintro i h ⟨⟨old, he⟩, ⟨o, ho, _, hd⟩, _⟩ b hb
    rcases (show b = e ∨ b = it by simpa using hb) with rfl | rfl
    · exact ⟨_, he, fun v q => nomatch q⟩
    · exact ⟨o, ho, fun v q => by rw [hd] at q; cases q⟩
  keep := by
    rintro i h h' ⟨⟨old, he⟩, hi, hne⟩ k
    exact ⟨⟨old, k e (by simp) _ he⟩, hi.at fun o q => k it (by simp) o q, hne⟩
  item := by
    intro X hP hw hK hc i pins s σ H E I hf st hg
    subst hP hw hK
    obtain ⟨⟨old, he⟩, hit, hne⟩ := st
    obtain ⟨xs, x, hq, hx⟩ := hg
    obtain ⟨its, rv, p, hz⟩ := I.tuple hq
    obtain ⟨u, hu, ru⟩ := rv.get hx
    have hel : e < s.heap.objs.size := Heap.lt_size he
    have hil : it < s.heap.objs.size := by obtain ⟨_, q, _⟩ := hit; exact Heap.lt_size q
    have hlen : i < its.toArray.size := by
      rw [List.size_toArray]; exact (List.getElem?_eq_some_iff.mp hu).1
    have pT : s.heap.IsTuple a its.toArray := p
    refine wpAny_pyNext_enum_itemC (Draws.tuple (A := X.A.in1) (I.ok.hd hc) it a hai its.toArray) he ⟨hit, pT⟩ hlen hne (by simp [hne, Ne.symm hae]) ?_
    intro y h' tk hy ho st' hT hsz hk
    obtain rfl : y = u := by
      have : its[i]? = some y := by simpa using hy
      rw [hu] at this; cases this; rfl
    refine ⟨_, rfl, wpAny_letOwnedTupleGo_enum (s := { s with heap := h', toks := tk + 1 }) ho fun h'' he' sb => ?_⟩
    have hT2 := (sb.2 _ (Nat.ne_of_gt hel)).trans hT
    have new : ObjOk X.prog X.w (upd H s.heap.objs.size (.tup [.int (i : Nat), x])) h'' s.heap.objs.size (.tup [.int (i : Nat), x]) :=
      ⟨by show 2 ≤ sizeLine; decide, [.int i tk, y], .cons ⟨_, rfl⟩ (.cons ru .nil), ⟨_, hT2, rfl, _, rfl⟩⟩
    have I1 : Inv X pins σ (upd H s.heap.objs.size (.tup [.int (i : Nat), x])) { s with heap := h'', toks := tk + 1 } := by
      refine I.turnedNew (ch := [e, it]) (fun b ob hb q => ?_) hf (Nat.le_refl _) new
      have h1 : b ≠ e := fun z => hb (by simp [z])
      have h2 : b ≠ it := fun z => hb (by simp [z])
      exact (sb.2 b h1).trans (hk b ob h1 h2 q)
    refine ⟨.ref s.heap.objs.size, _, I1, rfl, ⟨_, x, rfl, I.hok.fresh (Nat.le_refl _), rfl, fun ys hy => by rw [I.tuple_inj hy hq]; exact hx⟩, ⟨⟨y, ?_⟩, st'.1.at fun o q => (sb.2 it (Ne.symm hne)).trans q, hne⟩, fun b hb => ?_⟩
    · have e1 : ((i + 1 : Nat) : Int) = (i : Int) + 1 := by omega
      rw [e1]; exact he'
    · have hb' : b < s.heap.objs.size := by
        rcases (show b = e ∨ b = it by simpa using hb) with rfl | rfl
        · exact hel
        · exact hil
      rw [upd_ne (Nat.ne_of_lt hb')]
      exact (hf b hb).1
  done := by
    intro X hP hw hK hc i pins s σ H E I hf st hg
    subst hP hw hK
    obtain ⟨⟨old, he⟩, hit, hne⟩ := st
    obtain ⟨xs, hq, hx⟩ := hg
    obtain ⟨its, rv, p, hz⟩ := I.tuple hq
    have pT : s.heap.IsTuple a its.toArray := p
    have hlen : i = its.toArray.size := by rw [List.size_toArray, ← rv.length]; exact hx.symm
    subst hlen
    obtain ⟨f0, f1, f2, f3, f4, f5⟩ := hf it (by simp)
    exact wpAny_pyNext_enum_endD (Draws.tuple (A := X.A.in1) (I.ok.hd hc) it a hai its.toArray) he ⟨hit, pT⟩ fun h' eb => ⟨rfl, I.turned (t' := s.toks) (fun b o hb q => eb b o hb q) f0 f1 f3 f4 f5⟩
  self := by
    rintro A i s Q E ⟨⟨_, he⟩, _⟩ h
    exact wpAny_pyIter_enum he h
/-- what enumerate walks: a list or a tuple -/
def iEnA (K : PySem.W.Frag) (ta : TA) : TI := fun σ H R => ta σ H fun vs H1 => ∃ a xs, vs = [.ref a] ∧ ((SqL K H1 a xs ∧ R (Ite K a) H1) ∨ (SqT K H1 a xs ∧ R (IteT K a) H1))
theorem pi_enumA {X : Cx} {e : Expr} {ta : TA} {p pos tpos : Pos} {elts : List Expr} {kk : Nat} (hg : Gl X "enumerate") (hm : X.mg "enumerate" = none) (ha : PA X [e] ta) (hs : starEach [e] X.env = [(false, eval e X.env)]) :
    PI X (.Tuple elts kk tpos) (.Call (.Name "enumerate" p) [e] [] pos) (iEnA X.K ta) := by
  constructor
  intro pins s σ H R I h
  refine PyProof.Rows.Call_ (ld_blt I hg hm PyProof.Rows.boot_enumerate (PyProof.Rows.callWith_type1 (thn (ha.run pos pins s σ H _ I h) ?_) hs rfl))
  rintro us s1 ⟨vs, H1, I1, r1, a, xs, rfl, q⟩
  match us, r1 with
  | [_], .cons rfl .nil =>
    have two : ∀ (N b : Nat), b ∈ [N + 1, N] → N ≤ b := by
      intro N b hb
      rcases (show b = N + 1 ∨ b = N by simpa using hb) with z | z <;> omega
    rcases q with ⟨hq, q⟩ | ⟨hq, q⟩
    · obtain ⟨its, rv, p', hz⟩ := I1.list hq
      refine call_enumerate_list p'.isList fun h' he hit hsz hk => wpAny_pyIter_enum he ?_
      refine ⟨s1.heap.objs.size + 1, [s1.heap.objs.size + 1, s1.heap.objs.size], _, _, H1, rfl, I1.kept (t' := s1.toks) hk, turn_enum a (s1.heap.objs.size + 1) s1.heap.objs.size, ⟨⟨.none, he⟩, hit, Nat.succ_ne_self _⟩, fun b hb => ?_, q⟩
      exact I1.fpOk (two _ b hb) (I1.hok.fresh (two _ b hb))
    · obtain ⟨its, rv, p', hz⟩ := I1.tuple hq
      have pT : s1.heap.IsTuple a its.toArray := p'
      have hlt : a < s1.heap.objs.size := by obtain ⟨_, q, _⟩ := pT; exact Heap.lt_size q
      refine g3_enum_call (begins_tuple a its.toArray) pT fun h' he ho hk => wpAny_pyIter_enum he ?_
      refine ⟨s1.heap.objs.size + 1, [s1.heap.objs.size + 1, s1.heap.objs.size], _, _, H1, rfl, I1.kept (t' := s1.toks) hk, turn_enumT a (s1.heap.objs.size + 1) s1.heap.objs.size (Nat.ne_of_lt (Nat.lt_succ_of_lt hlt)) (Nat.ne_of_lt hlt), ⟨⟨.none, he⟩, ⟨_, ho, rfl, rfl⟩, Nat.succ_ne_self _⟩, fun b hb => ?_, q⟩
      exact I1.fpOk (two _ b hb) (I1.hok.fresh (two _ b hb))
/-- numbered -/
def enumD (i : Nat) : List D → List D
  | [] => []
  | d :: ds => .tup [.int i, d] :: enumD (i + 1) ds
theorem enumD_len : ∀ {ds : List D} {i : Nat}, (enumD i ds).length = ds.length
  | [], _ => rfl
  | _ :: ds, i => by simp [enumD, enumD_len]
theorem enumD_get : ∀ {ds : List D} {i j : Nat} {d : D}, (enumD i ds)[j]? = some d → ∃ x, ds[j]? = some x ∧ d = .tup [.int ((i + j : Nat) : Int), x]
  | [], _, _, _, h => by simp [enumD] at h
  | x :: ds, i, 0, d, h => by simp [enumD] at h; exact ⟨x, rfl, h.symm⟩
  | x :: ds, i, j + 1, d, h => by
    obtain ⟨y, h1, h2⟩ := enumD_get (ds := ds) (i := i + 1) (j := j) (d := d) (by simpa [enumD] using h)
    exact ⟨y, by simpa using h1, by rw [h2, show i + 1 + j = i + (j + 1) by omega]⟩
def wEnumL (tr : TAD) : TID := fun ρ g Q W => tr ρ g (fun ds g1 => match ds with | [d] => ∃ xs, lstOf g1 (.v d) xs ∧ Q (enumD 0 xs) (gdOf (.v d) xs) g1 | _ => False) W
def wEnumT (tr : TAD) : TID := fun ρ g Q W => tr ρ g (fun ds g1 => match ds with | [d] => ∃ xs, tupOf (.v d) xs ∧ Q (enumD 0 xs) (fun _ => True) g1 | _ => False) W
section
variable {X : Cx} {e tg : Expr} {tr : TAD} {E : L2.St → XK} {K : PySem.W.Frag}
/-- a new pair at each turn -/
theorem pair_ok {B : List Addr} {H : Hp} {g : GH} {i : Nat} {v : V} {d : D} {T : Addr} (w : Vw K B H g) (r : Rep K (hide H B) g v d) (hT : H T = none) :
    Rep K (hide (upd H T (.tup [.int (i : Nat), v])) B) g (.ref T) (.tup [.int (i : Nat), d]) ∧ Vw K B (upd H T (.tup [.int (i : Nat), v])) g ∧ Fr H g (upd H T (.tup [.int (i : Nat), v])) g := by
  obtain ⟨f, w', _⟩ := Fr.laidV (u := .tup [.int (i : Nat), v]) hT w
  exact ⟨.tup (by rw [hide_out (w.new hT)]; exact upd_same) (.cons (.int _) (.cons (r.fv w f) .nil)), w', f⟩
theorem itEL {B : List Addr} {H0 : Hp} {g0 : GH} {a : Addr} {ds : List D} {gd : GH → Prop} (io : ItOk K B H0 g0 (Itl K a) ds gd) : ItOk K B H0 g0 (Ite K a) (enumD 0 ds) gd := by
  intro B' i H g sB nB w f hg
  obtain ⟨go, st⟩ := io B' i H g sB nB w f hg
  refine ⟨fun d hd => ?_, fun hi => st (by rw [hi, enumD_len])⟩
  obtain ⟨x, hx, rfl⟩ := enumD_get hd
  obtain ⟨⟨xs, v, hs, hv⟩, yl⟩ := go x hx
  refine ⟨⟨xs, v, hs, hv⟩, ?_⟩
  rintro y H' ⟨T, z, rfl, hT, rfl, hz⟩
  obtain ⟨rx, _, _⟩ := yl z H ⟨rfl, hz⟩
  have q := pair_ok (i := i) w rx hT
  rw [Nat.zero_add]; exact q
theorem itET {B : List Addr} {H0 : Hp} {g0 : GH} {a : Addr} {vs : List V} {ds : List D} (h : SqT K (hide H0 B) a vs) (G : Vw K B H0 g0) (r : Reps K (hide H0 B) g0 vs ds) : ItOk K B H0 g0 (IteT K a) (enumD 0 ds) fun _ => True := by
  intro B' i H g sB nB w f _
  have h' : SqT K H a vs := sqT_un ((f.hd B).sqT G.rg h)
  have r' := r.more G f nB
  refine ⟨fun d hd => ?_, fun hi => ⟨vs, h', by rw [r'.length, hi, enumD_len]⟩⟩
  obtain ⟨x, hx, rfl⟩ := enumD_get hd
  obtain ⟨v, hv, q⟩ := r'.get hx
  refine ⟨⟨vs, v, h', hv⟩, ?_⟩
  rintro y H' ⟨T, z, rfl, hT, rfl, hz⟩
  have e := hz vs h'
  rw [hv] at e; cases e
  have q := pair_ok (i := i) w q hT
  rw [Nat.zero_add]; exact q
theorem q_enumL (h : PI X tg e (iEnA X.K (LA X.K E tr))) : PI X tg e (LI X.K E (wEnumL tr)) :=
  PI.of h fun σ H R ⟨B, ρ, g, Q0, W0, rs, rg, t, c, xc⟩ => ⟨B, ρ, g, _, W0, rs, rg, t, fun ds g1 vs H1 hq rd w1 f1 => by
    match ds, rd, hq with
    | [d], .cons r .nil, ⟨xs, hl, hq⟩ =>
      obtain ⟨a, ws, rfl, ha, rv, io⟩ := lstOf.cases (r := .v d) w1 r hl
      exact ⟨a, ws, rfl, .inl ⟨.inl (.inl ha), c _ _ g1 _ H1 hq (itEL io) w1 f1⟩⟩, xc⟩
theorem q_enumT (h : PI X tg e (iEnA X.K (LA X.K E tr))) : PI X tg e (LI X.K E (wEnumT tr)) :=
  PI.of h fun σ H R ⟨B, ρ, g, Q0, W0, rs, rg, t, c, xc⟩ => ⟨B, ρ, g, _, W0, rs, rg, t, fun ds g1 vs H1 hq rd w1 f1 => by
    match ds, rd, hq with
    | [d], .cons r .nil, ⟨xs, hl, hq⟩ =>
      obtain ⟨a, ws, rfl, ha, rv⟩ := tupOf.rep (r := .v d) r hl
      exact ⟨a, ws, rfl, .inr ⟨sqT_un ha, c _ _ g1 _ H1 hq (itET ha w1 rv) w1 f1⟩⟩, xc⟩
end
end G3
/-! G3t: sorted(x), x a list or a tuple of whole numbers -/
namespace G3
open PySem PySem.Spec PyProof.Rows L2
section
variable {prog : Program} {w : World} {A : Around} {E : Value → Shared → Prop} {s : Shared}
theorem sorted_tup {a : Addr} {us : List Value} {ns : List Int} {Q : Value → Shared → Prop} (at_a : IsTup s.heap a us.toArray) (nums : IntsAre us ns) (small : us.length ≤ sizeLine)
    (post : ∀ (s' : Shared) (p : Addr) (out : List Value) (ns' : List Int) (ep : Nat), (∀ b o, s.heap.get? b = some o → s'.heap.get? b = some o) → s'.gens = s.gens → s'.os = s.os → (∀ o, s.heap.get? p ≠ some o) →
      s'.heap.get? p = some (seqObj "list" out.toArray ep) → IntsAre out ns' → ns'.Perm ns → ns'.Pairwise (· ≤ ·) → Q (.ref p) s') : wpAny (model prog w) A (call (.builtin "sorted") [.ref a]) Q E s := by
  obtain ⟨o, at_o, cls, n, dat⟩ := (show s.heap.IsTuple a us.toArray from at_a)
  refine Calls.call_function_entry kind_sorted plain_sorted entry_sorted (args_sorted1 _) ?_
  unfold Builtin.«sorted»
  refine wpAny_bind (m := checkCount "sorted" 1 1 _) (wpAny_pure (wpAny_bind (wpAny_collect_seq a (T := "tuple") (.inr rfl) at_o cls dat (fun h1 k1 => ?_) (by rw [List.size_toArray]; exact small))))
  refine wpAny_bind (wpAny_newList ?_ small)
  have fresh : (h1.push (seqObj "list" us.toArray 0)).get? h1.objs.size = some (seqObj "list" us.toArray 0) := Heap.get?_push_size _ rfl
  have none_there : ∀ o, s.heap.get? h1.objs.size ≠ some o := fun o e => absurd (Heap.lt_size (k1 _ o e)) (Nat.lt_irrefl _)
  refine wpAny_bind (wpAny_holding (wpAny_call_entry slot_list_sort ⟨_, fresh, rfl⟩ entry_list_sort (SrtO.list_sort_ord SrtO.swo_int fresh small (fun h2 => SrtO.ints_sortable nums h2) fun out q1 q2 => ⟨_, rfl, ?_⟩) (args_list_sort _)))
  obtain ⟨c1, c2, c3⟩ := SrtO.ints_out nums q1 q2
  obtain ⟨ep, at_p⟩ := sortedHeap_at (vs := us) (out := out.toArray) fresh
  refine wpAny_pure ⟨_, rfl, post _ h1.objs.size out _ ep (fun b u e => ?_) rfl rfl none_there at_p c1 c2 c3⟩
  have e1 := k1 b u e
  show (sortedHeap (h1.push (seqObj "list" us.toArray 0)) h1.objs.size us out.toArray).get? b = some u
  rw [sortedHeap_old (Nat.ne_of_lt (Heap.lt_size e1)) (by rw [size_push']; exact Nat.lt_succ_of_lt (Heap.lt_size e1))]
  exact Heap.get?_push_of_some _ e1
end
section
variable {X : Cx} {pins : List (Addr × Obj)} {σ : L2.St} {H : Hp} {s : Shared}
/-- a thing that no one knows of yet is tracked -/
theorem inv_track (I : Inv X pins σ H s) {a : Addr} {u : HO} (na : H a = none) (new : ∀ o, X.s_0.heap.get? a = some o → a ∈ X.ex) (nL : a ≠ X.env.locals) (nc : ∀ x c, X.env.cells.lookup x = some c → c ≠ a)
    (np : ∀ p ∈ X.pn ++ pins, p.1 ≠ a) (ob : ObjOk X.prog X.w (upd H a u) s.heap a u) : Inv X pins σ (upd H a u) s := by
  have ne : ∀ {b : Addr} {o : HO}, H b = some o → b ≠ a := fun {b o} e z => by rw [z, na] at e; cases e
  refine ⟨I.ok, I.os, I.bare, ⟨I.base.keep, I.base.slot, fun b o e n hx => ?_, I.base.there, fun b xs e => ?_, fun b o u e => ?_, fun b ps e => ?_⟩, I.loc, I.cell, ?_, fun x c e => ?_, fun p hp => ?_, fun b o e => ?_, I.len⟩
  · rw [upd_ne fun z => by subst z; exact hx (new o e)]; exact I.base.free b o e n hx
  · have q := I.base.tups b xs e; rw [upd_ne (ne q)]; exact q
  · have q := I.base.frzs b o u e; rw [upd_ne (ne q)]; exact q
  · obtain ⟨m, q⟩ := I.base.tbls b ps e; exact ⟨m, by rw [upd_ne (ne q)]; exact q⟩
  · rw [upd_ne (Ne.symm nL)]; exact I.free
  · rw [upd_ne (nc x c e)]; exact I.freeC x c e
  · obtain ⟨h1, h2, h3⟩ := I.pin p hp
    exact ⟨h1, by rw [upd_ne (np p hp)]; exact h2, h3⟩
  · by_cases z : b = a
    · subst z; rw [upd_same] at e; cases e; exact ob
    · rw [upd_ne z] at e
      exact (I.hok b o e).stay (fun _ _ _ q => q) (fun c q => by rw [upd_ne (ne q)]; exact q) fun c xs q => by rw [upd_ne (ne q)]; exact q
/-- a new object, where none stood -/
theorem inv_new {s' : Shared} (I : Inv X pins σ H s) {a : Addr} {u : HO} (k : ∀ b o, s.heap.get? b = some o → s'.heap.get? b = some o) (gs : s'.gens = s.gens) (os : s'.os = s.os) (no : ∀ o, s.heap.get? a ≠ some o) (ob : ObjOk X.prog X.w (upd H a u) s'.heap a u) : H a = none ∧ Inv X pins σ (upd H a u) s' := by
  have na : H a = none := by
    cases e : H a with
    | none => rfl
    | some u => obtain ⟨o, z⟩ := objOk_get (I.hok a u e); exact absurd z (no o)
  have J : Inv X pins σ H s' := by
    obtain ⟨h1, g1, d1, t1, o1⟩ := s'
    obtain rfl : g1 = s.gens := gs
    obtain rfl : o1 = s.os := os
    exact Inv.call (ch := []) I ⟨fun b o e n _ _ => k b o e, fun b o e n _ _ => ⟨o.slots, k b o e⟩, fun b o e n _ => n, fun b o e _ => ⟨o, k b o e⟩, fun b xs e => e, fun b o u e => e, fun b ps e => ⟨#[], by rw [e]; simp⟩⟩ (I.hok.kept k) I.bare (fun _ z => nomatch z)
  refine ⟨na, inv_track J na (fun o e => ?_) ?_ (fun x c e z => ?_) (fun p hp z => ?_) ob⟩
  · by_cases m : a ∈ X.ex
    · exact m
    · obtain ⟨o', e'⟩ := I.base.there a o e m
      exact absurd e' (no o')
  · intro z
    obtain ⟨m, ⟨o, _, _, e, _⟩, _⟩ := I.loc
    exact no o (z ▸ e)
  · obtain ⟨v, q⟩ := I.cell x c e
    obtain ⟨o, q⟩ : ∃ o, s.heap.get? c = some o := by
      obtain ⟨_, e', _⟩ := q
      exact ⟨_, e'⟩
    exact no o (z ▸ q)
  · exact no _ (z ▸ (I.pin p hp).1)
/-- sorted(x), a list or a tuple -/
def rSortedA (K : PySem.W.Frag) : List V → Hp → VK → Prop := fun vs H Q => ∃ (a : Addr) (ns : List Int), vs = [V.ref a] ∧ (SqL K H a (ns.map V.int) ∨ SqT K H a (ns.map V.int)) ∧
  ∀ (ns' : List Int) (p : Addr), ns'.Perm ns → ns'.Pairwise (· ≤ ·) → H p = none → Q (.ref p) (upd H p (.lst (ns'.map V.int)))
end
theorem cr_sortedA {X : Cx} : CallR X (.builtin "sorted") (rSortedA X.K) := by
  intro pins s σ H vs us Q I r h
  obtain ⟨a, ns, rfl, hs | hs, q⟩ := h
  · exact cr_sortedI pins s σ H _ us Q I r ⟨a, ns, rfl, hs, q⟩
  · obtain ⟨its, rv, hl, hz⟩ := I.tuple hs
    rw [Vals.ref1 r]
    refine sorted_tup hl rv.ints (by rw [← rv.length]; exact hz) fun s' p out ns' ep k gs os no at_p nums pm up => ?_
    have len : (ns'.map V.int).length ≤ sizeLine := by rw [List.length_map, pm.length_eq]; rw [List.length_map] at hz; exact hz
    obtain ⟨na, J⟩ := inv_new (u := .lst (ns'.map V.int)) I k gs os no ⟨len, out, ep, vals_of_ints nums, at_p⟩
    exact ⟨.ref p, _, J, rfl, q _ p pm up na⟩
end G3
/-! G3u: sorted(x), x a tuple of whole numbers and a truth behind -/
namespace G3
open PySem PySem.Spec PyProof.Rows L2
section
variable {prog : Program} {w : World} {A : Around} {E : Value → Shared → Prop} {s : Shared} {Q : Value → Shared → Prop}
theorem gives_lt_bi (p : Bool) (n : Int) (u : Tok) : Gives (Builtin.«int.__lt__» ⟨[.bool p, .int n u], []⟩) (.val (Value.bool (decide ((if p = true then (1 : Int) else 0) < n)))) :=
  .of_wp fun M A E s Q h => by obtain ⟨hp, g, d, tk, os⟩ := s; wp_walk; exact ⟨_, rfl, h⟩
theorem gives_gt_bi (p : Bool) (n : Int) (u : Tok) : Gives (Builtin.«int.__gt__» ⟨[.bool p, .int n u], []⟩) (.val (Value.bool (decide ((if p = true then (1 : Int) else 0) > n)))) :=
  .of_wp fun M A E s Q h => by obtain ⟨hp, g, d, tk, os⟩ := s; wp_walk; exact ⟨_, rfl, h⟩
theorem sub_ib : isSubtype (.type "int") (.type "bool") = pure false := by with_unfolding_all rfl
theorem sub_bi : isSubtype (.type "bool") (.type "int") = pure true := by with_unfolding_all rfl
theorem lt_bi {p : Bool} {n : Int} {u : Tok} (h : Q (.bool (decide (b2i p < n))) s) : wpAny (model prog w) A (compareOp .Lt (.bool p) (.int n u)) Q E s := by
  show wpAny _ A (richCompare .Lt _ _) Q E s
  exact wpAny_richCompare_left (typeIs_bool' s p) (typeIs_int s n u) (by decide) sub_ib F.slot_bool_lt
    (call_gives F.slot_bool_lt (typeIs_bool' s p) F.entry_int_lt (F.args_int_lt_2 _ _) (gives_lt_bi p n u) ⟨nofun, h⟩)
theorem lt_ib {p : Bool} {n : Int} {u : Tok} (h : Q (.bool (decide (n < b2i p))) s) : wpAny (model prog w) A (compareOp .Lt (.int n u) (.bool p)) Q E s := by
  show wpAny _ A (richCompare .Lt _ _) Q E s
  have ha : s.TypeIs (.int n u) "int" := typeIs_int s n u
  have hb : s.TypeIs (.bool p) "bool" := typeIs_bool' s p
  have hslot := F.slot_bool_gt
  have hv : [Value.int n u, Value.bool p].any Value.onHeap = false := rfl
  simp only [richCompare, ha.oneThing_none]
  try with_reducible refine wpAny_holding ?_
  simp only [cRoomFor, hv, Bool.false_eq_true, if_false, pure_bind]
  refine wpAny_bind (wpAny_typeOf ha (wpAny_bind (wpAny_typeOf hb ?_)))
  simp only [show (Value.type "int" != Value.type "bool") = true by decide, if_true]
  refine wpAny_bind (wpAny_of_eq sub_bi ?_)
  simp only [if_true]
  refine wpAny_bind (wpAny_tryCompare_slot hb hslot (call_gives F.slot_bool_gt hb F.entry_int_gt (F.args_int_gt_2 _ _) (gives_gt_bi p n u) ⟨nofun, ?_⟩))
  have h' : Q (.bool (decide ((if p = true then (1 : Int) else 0) > n))) s := h
  show wpAny (model prog w) A (Sem.rule _ Sem.pure >>= fun _ => pure _) Q E s
  exact wpAny_bind (wpAny_rule (wpAny_pure h'))
theorem lt_ii {m n : Int} {t u : Tok} (h : Q (.bool (decide (m < n))) s) : wpAny (model prog w) A (compareOp .Lt (.int m t) (.int n u)) Q E s :=
  compareOp_gives (op := .Lt) (typeIs_int s m t) (typeIs_int s n u) F.slot_int_lt F.entry_int_lt (F.args_int_lt_2 _ _) (AutoIntG1.int___lt___int_int_0 m t n u) (by intro hq; cases hq) h
end
/-- a whole number, or a truth, as a number -/
def mv : Value → Int
  | .int i _ => i
  | .bool b => b2i b
  | _ => 0
def IsMix (v : Value) : Prop := (∃ i t, v = .int i t) ∨ ∃ b, v = .bool b
def ltM (v u : Value) : Bool := decide (mv v < mv u)
theorem swo_mix : SrtO.Swo ltM := by
  refine ⟨fun x y h => ?_, fun x y z h1 h2 => ?_⟩
  · have a := of_decide_eq_true (p := mv x < mv y) h
    exact decide_eq_false (p := mv y < mv x) (by omega)
  · have a := of_decide_eq_false (p := mv y < mv x) h1
    have b := of_decide_eq_false (p := mv z < mv y) h2
    exact decide_eq_false (p := mv z < mv x) (by omega)
section
variable {prog : Program} {w : World} {A : Around} {E : Value → Shared → Prop} {s : Shared}
theorem mix_cmp {vs : List Value} (hI : ∀ v ∈ vs, IsMix v) : SrtO.Cmp prog w A s general' (fun p => p.1 ∈ vs) (SrtO.lt2 ltM) := by
  intro p q hm hm'
  show wpAny (model prog w) A (keyLt' general' p.1 q.1) (fun r s' => s' = s ∧ r = ltM p.1 q.1) (fun _ _ => False) s
  have e : keyLt' general' p.1 q.1 = oneLt' false p.1 q.1 := rfl
  rw [e]
  refine PySem.W.kat_one p.1 q.1 ?_
  rcases hI _ hm with ⟨i, t, e1⟩ | ⟨b, e1⟩ <;> rcases hI _ hm' with ⟨j, u, e2⟩ | ⟨c, e2⟩ <;> rw [e1, e2]
  · exact lt_ii ⟨rfl, rfl⟩
  · exact lt_ib ⟨rfl, rfl⟩
  · exact lt_bi ⟨rfl, rfl⟩
  · exact lt_bool ⟨rfl, rfl⟩
def tyM : Value → Value
  | .bool _ => .type "bool"
  | _ => .type "int"
theorem first_mix : ∀ {vs : List Value}, (∀ v ∈ vs, IsMix v) → vs.mapM firstOfTuple' = pure (vs.map fun _ => none)
  | [], _ => by simp
  | v :: vs, h => by
    have e : firstOfTuple' v = pure none := by
      rcases h v List.mem_cons_self with ⟨i, t, rfl⟩ | ⟨b, rfl⟩
      · exact firstOfTuple'_int i t
      · rfl
    rw [List.mapM_cons, e, first_mix fun u hu => h u (List.mem_cons_of_mem _ hu)]; simp
theorem types_mix : ∀ {vs : List Value}, (∀ v ∈ vs, IsMix v) → vs.mapM typeOf = pure (vs.map tyM)
  | [], _ => by simp
  | v :: vs, h => by
    have e : typeOf v = pure (tyM v) := by
      rcases h v List.mem_cons_self with ⟨i, t, rfl⟩ | ⟨b, rfl⟩ <;> rfl
    rw [List.mapM_cons, e, types_mix fun u hu => h u (List.mem_cons_of_mem _ hu)]
    simp
theorem kind_mix {i : Int} {t : Tok} {us : List Value} {b : Bool} (h : ∀ v ∈ us, IsMix v) : keyKind' (Value.int i t :: (us ++ [Value.bool b])).toArray = pure general' := by
  have hm : ∀ v ∈ Value.int i t :: (us ++ [Value.bool b]), IsMix v := fun v hv => by
    rcases List.mem_cons.mp hv with rfl | hv
    · exact .inl ⟨_, _, rfl⟩
    · rcases List.mem_append.mp hv with hv | hv
      · exact h v hv
      · rw [List.mem_singleton.mp hv]; exact .inr ⟨_, rfl⟩
  rw [keyKind'_eq, List.mapM_toArray, first_mix hm]
  simp only [map_pure, pure_bind]
  rw [if_neg (by simp), if_neg (by simp)]
  rw [oneTypeOnly'_eq, List.mapM_toArray, types_mix hm]
  simp only [map_pure, pure_bind]
  have h0 : (List.map tyM (Value.int i t :: (us ++ [Value.bool b]))).toArray[0]? = some (Value.type "int") := by simp [tyM]
  have hall : ((List.map tyM (Value.int i t :: (us ++ [Value.bool b]))).toArray.all fun x => x == Value.type "int") = false := by
    simp only [List.all_toArray, List.all_map]
    refine List.all_eq_false.mpr ⟨.bool b, by simp, ?_⟩
    show ¬ ((Value.type "bool" == Value.type "int") = true)
    decide
  rw [h0]
  simp only [hall, Bool.false_eq_true, if_false, pure_bind, Option.isSome_none]
theorem mix_sortable {a : Addr} {us : List Value} {ns : List Int} {b : Bool} (hI : IntsAre us ns) (h2 : 2 ≤ (us ++ [Value.bool b]).length) : SrtO.SortableO prog w A s a (us ++ [.bool b]) ltM := by
  intro h' _
  have hm : ∀ v ∈ us ++ [Value.bool b], IsMix v := fun v hv => by
    rcases List.mem_append.mp hv with hv | hv
    · exact .inl (SrtO.ints_mem hI v hv)
    · rw [List.mem_singleton.mp hv]; exact .inr ⟨_, rfl⟩
  refine ⟨general', fun Q E hq => ?_, mix_cmp hm⟩
  cases hI with
  | nil => simp at h2
  | cons n t r =>
    rw [List.cons_append, kind_mix fun v hv => .inl (SrtO.ints_mem r v hv)]
    exact wpAny_pure hq
theorem sorted_tupM {a : Addr} {us : List Value} {ns : List Int} {b : Bool} {Q : Value → Shared → Prop} (at_a : IsTup s.heap a (us ++ [Value.bool b]).toArray) (nums : IntsAre us ns) (small : (us ++ [Value.bool b]).length ≤ sizeLine)
    (post : ∀ (s' : Shared) (p : Addr) (out : List Value) (ep : Nat), (∀ b o, s.heap.get? b = some o → s'.heap.get? b = some o) → s'.gens = s.gens → s'.os = s.os → (∀ o, s.heap.get? p ≠ some o) →
      s'.heap.get? p = some (seqObj "list" out.toArray ep) → out.Perm (us ++ [Value.bool b]) → Q (.ref p) s') : wpAny (model prog w) A (call (.builtin "sorted") [.ref a]) Q E s := by
  obtain ⟨o, at_o, cls, n, dat⟩ := (show s.heap.IsTuple a (us ++ [Value.bool b]).toArray from at_a)
  refine Calls.call_function_entry kind_sorted plain_sorted entry_sorted (args_sorted1 _) ?_
  unfold Builtin.«sorted»
  refine wpAny_bind (m := checkCount "sorted" 1 1 _) (wpAny_pure (wpAny_bind (wpAny_collect_seq a (T := "tuple") (.inr rfl) at_o cls dat (fun h1 k1 => ?_) (by rw [List.size_toArray]; exact small))))
  refine wpAny_bind (wpAny_newList ?_ small)
  have fresh : (h1.push (seqObj "list" (us ++ [Value.bool b]).toArray 0)).get? h1.objs.size = some (seqObj "list" (us ++ [Value.bool b]).toArray 0) := Heap.get?_push_size _ rfl
  have none_there : ∀ o, s.heap.get? h1.objs.size ≠ some o := fun o e => absurd (Heap.lt_size (k1 _ o e)) (Nat.lt_irrefl _)
  refine wpAny_bind (wpAny_holding (wpAny_call_entry slot_list_sort ⟨_, fresh, rfl⟩ entry_list_sort (SrtO.list_sort_ord swo_mix fresh small (fun h2 => mix_sortable nums h2) fun out q1 q2 => ⟨_, rfl, ?_⟩) (args_list_sort _)))
  obtain ⟨ep, at_p⟩ := sortedHeap_at (vs := us ++ [Value.bool b]) (out := out.toArray) fresh
  refine wpAny_pure ⟨_, rfl, post _ h1.objs.size out ep (fun b' u e => ?_) rfl rfl none_there at_p q2.perm⟩
  have e1 := k1 b' u e
  show (sortedHeap (h1.push (seqObj "list" (us ++ [Value.bool b]).toArray 0)) h1.objs.size (us ++ [Value.bool b]) out.toArray).get? b' = some u
  rw [sortedHeap_old (Nat.ne_of_lt (Heap.lt_size e1)) (by rw [size_push']; exact Nat.lt_succ_of_lt (Heap.lt_size e1))]
  exact Heap.get?_push_of_some _ e1
end
def vM : Value → V
  | .int i _ => .int i
  | .bool b => .bl b
  | _ => .non
theorem vals_mix : ∀ {us : List Value}, (∀ v ∈ us, IsMix v) → Vals (us.map vM) us
  | [], _ => .nil
  | v :: us, h => by
    refine .cons ?_ (vals_mix fun u hu => h u (List.mem_cons_of_mem _ hu))
    rcases h v List.mem_cons_self with ⟨i, t, rfl⟩ | ⟨b, rfl⟩
    · exact ⟨t, rfl⟩
    · rfl
/-- sorted(x), a tuple of whole numbers with a truth behind -/
def rSortedM (K : PySem.W.Frag) : List V → Hp → VK → Prop := fun vs H Q => ∃ (a : Addr) (ns : List Int) (b : Bool), vs = [V.ref a] ∧ SqT K H a (ns.map V.int ++ [V.bl b]) ∧
  ∀ (ys : List V) (p : Addr), ys.Perm (ns.map V.int ++ [V.bl b]) → H p = none → Q (.ref p) (upd H p (.lst ys))
theorem cr_sortedM {X : Cx} : CallR X (.builtin "sorted") (rSortedM X.K) := by
  intro pins s σ H vs us Q I r h
  obtain ⟨a, ns, b, rfl, hs, q⟩ := h
  obtain ⟨its, rv, hl, hz⟩ := I.tuple hs
  rw [Vals.ref1 r]
  have hn : (ns.map V.int).length = ns.length := List.length_map ..
  have r1 := rv.take ns.length
  have r2 := rv.drop ns.length
  rw [List.take_append_of_le_length (by omega), List.take_of_length_le (by omega)] at r1
  rw [List.drop_append_of_le_length (by omega), List.drop_of_length_le (by omega), List.nil_append] at r2
  obtain ⟨u, eu, ru⟩ := Vals.one r2
  have eb : u = Value.bool b := ru
  subst eb
  have eI : its = its.take ns.length ++ [Value.bool b] := by rw [← eu, List.take_append_drop]
  generalize its.take ns.length = us at *
  subst eI
  have hI := r1.ints
  have hlen := rv.length
  have hm : ∀ v ∈ us ++ [Value.bool b], IsMix v := fun v hv => by
    rcases List.mem_append.mp hv with hv | hv
    · exact .inl (SrtO.ints_mem hI v hv)
    · rw [List.mem_singleton.mp hv]; exact .inr ⟨_, rfl⟩
  have ev : (us ++ [Value.bool b]).map vM = ns.map V.int ++ [V.bl b] := Vals.inj (vals_mix hm) rv
  refine sorted_tupM hl hI (by rw [← hlen]; exact hz) fun s' p out ep k gs os no at_p pm => ?_
  have hp : (out.map vM).Perm (ns.map V.int ++ [V.bl b]) := by rw [← ev]; exact pm.map vM
  have len : (out.map vM).length ≤ sizeLine := by rw [hp.length_eq]; exact hz
  obtain ⟨na, J⟩ := inv_new (u := .lst (out.map vM)) I k gs os no ⟨len, out, ep, vals_mix fun v hv => hm v (pm.mem_iff.mp hv), at_p⟩
  exact ⟨.ref p, _, J, rfl, q _ p hp na⟩
theorem cr_sortedAM {X : Cx} : CallR X (.builtin "sorted") (fun vs H Q => rSortedA X.K vs H Q ∨ rSortedM X.K vs H Q) := by
  intro pins s σ H vs us Q I r h
  rcases h with h | h
  · exact cr_sortedA pins s σ H vs us Q I r h
  · exact cr_sortedM pins s σ H vs us Q I r h
section
variable {K : PySem.W.Frag} {H : Hp} {g : GH}
theorem Reps.mix (ns : List Int) (b : Bool) : Reps K H g (ns.map V.int ++ [V.bl b]) (ns.map D.int ++ [D.bl b]) := by
  induction ns with
  | nil => exact .cons (.bl b) .nil
  | cons n ns ih => exact .cons (.int n) ih
theorem Reps.mix_inv : ∀ {vs : List V} {ns : List Int} {b : Bool}, Reps K H g vs (ns.map D.int ++ [D.bl b]) → vs = ns.map V.int ++ [V.bl b]
  | _, [], b, .cons r .nil => by cases r; rfl
  | _, n :: ns, b, .cons r t => by cases r; rw [Reps.mix_inv t]; rfl
/-- another order of the same -/
theorem reps_perm {vs ys : List V} {ws : List D} (r : Reps K H g vs ws) (h : ys.Perm vs) : ∃ ds : List D, ds.Perm ws ∧ Reps K H g ys ds := by
  induction h generalizing ws with
  | nil => cases r; exact ⟨[], .refl _, .nil⟩
  | cons x _ ih =>
    cases r with
    | cons q t =>
      obtain ⟨ds, h1, h2⟩ := ih t
      exact ⟨_, h1.cons _, .cons q h2⟩
  | swap x y l =>
    cases r with
    | cons q t =>
      cases t with
      | cons q2 t => exact ⟨_, List.Perm.swap .., .cons q2 (.cons q t)⟩
  | trans h1 h2 ih1 ih2 =>
    obtain ⟨ds, p1, r1⟩ := ih2 r
    obtain ⟨es, p2, r2⟩ := ih1 r1
    exact ⟨es, p2.trans p1, r2⟩
end
end G3
/-! G3x: exceptions of the program's own classes: what the written part says; isinstance(e, C), e.f of a tracked one -/
namespace G3
open PySem PySem.Spec PySem.Calls PyProof.Rows L2
open PySem.W (Looks InstAt findIn specialIn takesIn subIn mroIn hasDictIn clsIn findObj any_some looks_findIn looks_find looks_subIn KitX)
section
variable {prog : Program} {w : World} {A : Around} {E : Value → Shared → Prop} {s : Shared} {K : PySem.W.Frag} {x D : Addr} {ox : Obj} {od : Option Obj}
/-- a data descriptor of the class is found ahead of the dict -/
theorem found_data {C : Addr} {nm : Str} {a g : Value} (q1 : (clsIn K C).isSome = true) (q2 : findIn K (.ref C) nm = some (some a)) (q3 : specialIn K a "__get__" = some (some g)) (q4 : takesIn K a = some true) : findObj K C od nm = some (.bind g a) := by
  obtain ⟨cd, q1⟩ := Option.isSome_iff_exists.mp q1
  unfold findObj
  rw [q1, Option.bind_some, q2, Option.bind_some]
  simp [q3, q4]
/-- e.__class__ of an exception of a class of one's own, with a dict or without -/
theorem class_of_exc {Q : Option Value → Shared → Prop} (C : ExcC K D) (X : K.In s.heap) (I : InstAt s.heap x ox D od) (post : Q (some (.ref D)) { s with toks := s.toks + 1 }) : wpAny (model prog w) A (getAttr? (.ref x) "__class__") Q E s := by
  obtain ⟨h1, h2, h3, h4, h5, h6, h7, h8⟩ := C
  have found : findObj K D od "__class__" = some (.bind (.builtin "getset_descriptor.__get__") (.builtin "object.__class__")) := found_data (by obtain ⟨cd, e, _⟩ := any_some h4; rw [e]; rfl) h5 h6 h7
  obtain ⟨hp, gs, dr, tk, os⟩ := s
  have k0 := I.type (M := model prog w)
  have k1 := looks_findIn (M := model prog w) X h1
  have k2 := looks_findIn (M := model prog w) X h2
  have k3 := looks_find (M := model prog w) X I found
  have isE : Looks (model prog w) hp (isInstance (.ref x) (.type "BaseException")) true := k0.andThen (looks_subIn X h3)
  have n0 : (false && onTheHeap (Value.builtin "BaseException.__getattribute__")) = false := rfl
  have n2 : (Value.builtin "BaseException.__getattribute__" == Value.builtin "object.__getattribute__") = false := by decide +kernel
  have n1 : (onTheHeap (Value.ref D) && Value.builtin "BaseException.__getattribute__" == Value.builtin "object.__getattribute__") = false := by rw [n2]; rfl
  unfold getAttr? getAttrBy? getAttrBy
  refine wpAny_bind (wpAny_mkText (wpAny_bind (wpAny_attempt (wpAny_holding (wpAny_bind (k0.at (wpAny_bind (k1.at ?_))))))))
  show wpAny _ _ (if (onTheHeap (Value.ref D) && Value.builtin "BaseException.__getattribute__" == Value.builtin "object.__getattribute__") = true then _ else _) _ _ _
  rw [n1, if_neg Bool.false_ne_true]
  unfold getAttrByItsOwn hookBefore
  refine wpAny_bind ?_
  have n4 : onTheHeap (Value.ref D) = true := rfl
  rw [if_pos n4]
  refine k2.at (wpAny_bind (wpAny_attempt (wpAny_holding ?_)))
  unfold callGetattribute
  rw [n0, if_neg Bool.false_ne_true]
  unfold boundAndCalled
  rw [PySem.F.excAttr_ValueError.ga.bind (.ref x)]
  refine wpAny_bind (wpAny_pure ?_)
  show wpAny _ _ (call (.builtin "BaseException.__getattribute__") [.ref x, .str "__class__" tk]) _ _ _
  refine wpAny_call (codeAny_call_builtin PySem.F.excAttr_ValueError.ga.plain PySem.F.entry_bexc_ga ?_)
  refine @PySem.W.check_slot (model prog w) _ _ ⟨hp, gs, dr, tk + 1, os⟩ "BaseException.__getattribute__" "BaseException" "__getattribute__" (.ref x) [.str "__class__" tk] [] _ (by decide +kernel) (by decide +kernel) isE (PySem.F.args_bexc_ga (.ref x) (.str "__class__" tk)) ?_
  unfold Builtin.«object.__getattribute__»
  refine wpAny_bind (wpAny_of_eq (a := ((Value.ref x : Value), [Value.str "__class__" tk])) (by first | rfl | (simp only [slotArgs]; rfl)) ?_)
  refine wpAny_bind (wpAny_pure (wpAny_bind (k0.at (wpAny_bind (k3.at ?_)))))
  show wpAny _ _ (holding [Value.builtin "object.__class__"] (call (.builtin "getset_descriptor.__get__") [.builtin "object.__class__", .ref x, .ref D]) >>= ret) _ _ _
  refine wpAny_bind (wpAny_holding (wpAny_call (PySem.W.class_get (s := ⟨hp, gs, dr, tk + 1, os⟩) (ox := ox) (od := od) X I h8 (wpAny_pure ?_))))
  show wpAny _ _ (handedOut (.ref D)) _ _ _
  rw [PySem.W.handedOut_of (v := .ref D) rfl]
  first
    | exact wpAny_pure (wpAny_pure post)
    | exact wpAny_pure post
    | exact wpAny_pure (wpAny_bind (wpAny_pure (wpAny_pure post)))
theorem kit_exc (C : ExcC K D) : KitX K (.ref x) (.ref D) (fun h => InstAt h x ox D od) where
  ty := fun _ _ _ I => I.type
  it := fun _ _ X _ => by
    obtain ⟨cd, q, _⟩ := any_some C.hd
    unfold clsIn at q
    split at q
    · rename_i e
      intro A' Q' E' s' k post
      unfold isType loadHead
      exact wpAny_bind (wpAny_loadPart (k _ _ (X _ _ e)) (wpAny_pure post))
    · cases q
  ne := fun h tp dd its n sl X e => by
    obtain ⟨cd, q, _⟩ := any_some C.hd
    refine Bool.eq_false_iff.mpr fun z => ?_
    obtain rfl : D = tp := Value.ref.inj (beq_iff_eq.mp z)
    unfold clsIn at q
    split at q
    · rename_i e2
      have := (X _ _ e2).symm.trans e
      cases this
    · cases q
  ca := fun X I k => class_of_exc C X I k
end
/-- a tracked exception: its object, and its dict where it has one -/
def ExT (H : Hp) (a D : Addr) : Option Addr → Prop
  | none => H a = some (.ext (IsX a (.ref D) none))
  | some dd => H a = some (.ext (IsX a (.ref D) (some dd))) ∧ ∃ fs, H dd = some (.xd fs)
theorem ExT.inst {X : Cx} {pins : List (Addr × Obj)} {σ : L2.St} {H : Hp} {s : Shared} (I : Inv X pins σ H s) {a D : Addr} {d : Option Addr} (h : ExT H a D d) : ∃ oe od, InstAt s.heap a oe D od := by
  match d, h with
  | none, h =>
    obtain ⟨⟨o, vs, e, e1, e2, e3⟩, _⟩ := I.hok a _ h
    exact ⟨o, none, e, e1, by unfold PySem.W.notCls; rw [e3] <;> rfl, by rw [e2]; trivial⟩
  | some dd, ⟨h, fs, h2⟩ =>
    obtain ⟨⟨o, vs, e, e1, e2, e3⟩, _⟩ := I.hok a _ h
    obtain ⟨mA, hns, _⟩ := I.hok dd _ h2
    obtain ⟨od, ho, _⟩ := lookIn_ns hns
    exact ⟨o, some od, e, e1, by unfold PySem.W.notCls; rw [e3] <;> rfl, by rw [e2]; exact ho⟩
/-- isinstance(e, c) -/
def rIsX (K : PySem.W.Frag) : List V → Hp → VK → Prop := fun xs H Q => (∃ (a D : Addr) (d : Option Addr) (c : V) (cv : Value) (b : Bool), xs = [.ref a, c] ∧ ExT H a D d ∧ ExcC K D ∧ (∀ u, RelV c u → u = cv) ∧ PySem.W.kitOne K (.ref D) cv = some b ∧ Q (.bl b) H) ∨
  ∃ (a D tp : Addr) (d : Option Addr) (cs : List V) (us : List Value) (b : Bool), xs = [.ref a, .ref tp] ∧ ExT H a D d ∧ ExcC K D ∧ SqT K H tp cs ∧ Paired ClsV cs us ∧ PySem.W.kitAny K (.ref D) us = some b ∧ Q (.bl b) H
theorem call_isX {X : Cx} : CallR X (.builtin "isinstance") (rIsX X.K) := by
  intro pins s σ H xs us Q I r h
  rcases h with ⟨a, D, d, c, cv, b, rfl, ht, C, hcv, e, q⟩ | ⟨a, D, tp, d, cs, ws, b, rfl, ht, C, hT, k, e, q⟩
  rotate_left
  · obtain ⟨u1, u2, rfl, r1, r2⟩ := vals2 r
    cases (show u2 = Value.ref tp from r2)
    cases (show u1 = Value.ref a from r1)
    obtain ⟨oe, od, J⟩ := ht.inst I
    obtain ⟨its, rv, p, hz⟩ := I.tuple hT
    have e3 := ClsV.all k rv
    subst e3
    obtain ⟨⟨oc, od2, dt, sl⟩, ho, hc, n, hdt⟩ := p
    simp only at hc hdt
    subst hc hdt
    exact PySem.W.kia_tup (kit_exc C) I.kIn J ho e (fun z => nomatch z) fun tk => ⟨.bl b, H, I.kept (t' := tk) fun _ _ z => z, rfl, q⟩
  cases r with
  | cons rx rr =>
    cases rr with
    | cons rt rr =>
      cases rr
      cases rx
      obtain rfl := hcv _ rt
      obtain ⟨oe, od, J⟩ := ht.inst I
      exact PySem.W.kia_one (kit_exc C) I.kIn J e (fun z => nomatch z) fun tk => ⟨.bl b, H, I.kept (t' := tk) fun _ _ z => z, rfl, q⟩
/-- e.f -/
def rXf (K : PySem.W.Frag) (f : Str) : V → Hp → VK → Prop := fun x H Q => ∃ (a D dd : Addr) (fs : List (Str × V)) (v : V), x = .ref a ∧ ExT H a D (some dd) ∧ H dd = some (.xd fs) ∧ XfC K D ∧ findIn K (.ref D) f = some none ∧ fs.lookup f = some v ∧ Q v H
theorem pe_xat {X : Cx} {e : Expr} {te : TE} {pos : Pos} {n : Str} (he : PE X e te) (hb : attributeBase e n X.env (eval e X.env) = eval e X.env := by rfl) : PE X (.Attribute e n pos) (fun σ H Q => te σ H fun x H1 => rXf X.K n x H1 Q) := by
  refine ⟨fun pins s σ H Q I h => attr_of hb (thn (he.run pins s σ H _ I h) fun u s1 ⟨x, H1, I1, rx, hx⟩ => ?_)⟩
  obtain ⟨a, D, dd, fs, v, rfl, ht, hd, T, hno, l, q⟩ := hx
  obtain rfl : u = Value.ref a := rx
  obtain ⟨⟨o, vs, e, e1, e2, e3⟩, _⟩ := I1.hok a _ ht.1
  obtain ⟨mA, hns, hr⟩ := I1.hok dd _ hd
  obtain ⟨od, ho, hl⟩ := lookIn_ns hns
  obtain ⟨u, hu, ru⟩ := RelO.some_of (v := v) (o := mA n) (by rw [← l]; exact hr n)
  have J : InstAt s1.heap a o D (some od) := ⟨e, e1, by unfold PySem.W.notCls; rw [e3] <;> rfl, by rw [e2]; exact ho⟩
  exact HandSPX.exc_get I1.kIn J T.ga T.gg T.exC (PySem.W.findObj_own T.hdC hno rfl (by rw [hl, hu])) (handed_of ru) ⟨v, H1, I1.tok _, ru, q⟩

/-! ### the classes, by name -/
theorem ceB_ok {K : PySem.W.Frag} {D : Addr} (h : ceB K D = true) : ExcC K D := by
  simp only [ceB, Bool.and_eq_true, decide_eq_true_eq] at h
  obtain ⟨h1, h2, h3, h4, h5, h6, h7, h8⟩ := h
  exact ⟨h1, h2, h3, h4, h5, h6, h7, h8⟩
structure ExcW (K : PySem.W.Frag) (xs : List Str) : Prop where
  one : ∀ x ∈ xs, gaK K x = some (He.ga K x) ∧ ExcC K (He.ga K x) ∧ PySem.W.typeIn K (.ref (He.ga K x)) = some (.type "type") ∧ findIn K (.ref (He.ga K x)) "at" = some none ∧ PySem.W.kitOne K (.ref (He.ga K x)) (.type "ValueError") = some true ∧ PySem.W.keepIn K (.ref (He.ga K x)) = true
  two : ∀ x ∈ xs, ∀ c ∈ upN :: xs, gaK K c = some (He.ga K c) ∧ PySem.W.exmOne K (.ref (He.ga K x)) (.ref (He.ga K c)) = some (exSub x c) ∧ PySem.W.kitOne K (.ref (He.ga K x)) (.ref (He.ga K c)) = some (exSub x c)
theorem gaK_of {K : PySem.W.Frag} {x : Str} (h : PySem.W.nsIn K mainGlobals x = some (some (.ref (He.ga K x)))) : gaK K x = some (He.ga K x) := by
  unfold gaK; rw [h]
theorem exB_ok {K : PySem.W.Frag} {xs : List Str} (h : exB xs K = true) : ExcW K xs := by
  have q : ∀ x ∈ xs, exOne K x = true ∧ ∀ c ∈ upN :: xs, exTwo K x c = true := fun x hx => by
    have := List.all_eq_true.mp h x hx
    rw [Bool.and_eq_true] at this
    exact ⟨this.1, List.all_eq_true.mp this.2⟩
  refine ⟨fun x hx => ?_, fun x hx c hc => ?_⟩
  · have := (q x hx).1
    simp only [exOne, Bool.and_eq_true, decide_eq_true_eq] at this
    obtain ⟨h1, h2, h3, h4, h5, h6⟩ := this
    exact ⟨gaK_of h1, ceB_ok h2, h3, h4, h5, h6⟩
  · have := (q x hx).2 c hc
    simp only [exTwo, Bool.and_eq_true, decide_eq_true_eq] at this
    exact ⟨gaK_of this.1, this.2⟩
theorem ExcW.sub {K : PySem.W.Frag} {xs ys : List Str} (E : ExcW K ys) (s : ∀ x ∈ xs, x ∈ ys) : ExcW K xs :=
  ⟨fun x hx => E.one x (s x hx), fun x hx c hc => E.two x (s x hx) c ((List.mem_cons.mp hc).elim (fun e => e ▸ List.mem_cons_self) fun m => List.mem_cons_of_mem _ (s c m))⟩
theorem ExcW.nil {K : PySem.W.Frag} : ExcW K [] := ⟨fun _ h => absurd h (by simp), fun _ h => absurd h (by simp)⟩
/-- isinstance(e, c) of a caught exception, over data: c a class of the program, or ValueError -/
def fIsE (xs : List Str) : List D → GH → QK → Prop := fun ds g Q => match ds with
  | [.exc C _, .gl c] => C ∈ xs ∧ c ∈ upN :: xs ∧ Q (.v (.bl (exSub C c))) g
  | [.exc C _, .ty t] => C ∈ xs ∧ t = "ValueError" ∧ Q (.v (.bl true)) g
  | [.exc C _, .tup cs] => C ∈ xs ∧ ∃ ns : List Str, cs = ns.map .gl ∧ (∀ c ∈ ns, c ∈ upN :: xs) ∧ Q (.v (.bl (ns.any (exSub C)))) g
  | _ => False
theorem Rep.exc_inv {K : PySem.W.Frag} {H : Hp} {g : GH} {v : V} {C : Str} {n : Option Int} (r : Rep K H g v (.exc C n)) : ∃ a c d, v = .ref a ∧ gaK K C = some c ∧ ExT H a c d := by
  cases r with
  | exc0 h1 h2 h3 => exact ⟨_, _, none, rfl, h1, h2⟩
  | exc1 h1 h2 h3 h4 h5 => exact ⟨_, _, some _, rfl, h1, h2, _, h4⟩
theorem ExT.un {H : Hp} {B : List Addr} {a c : Addr} {d : Option Addr} (h : ExT (hide H B) a c d) : ExT H a c d := by
  cases d with
  | none => exact (of_hide h).1
  | some d => exact ⟨(of_hide h.1).1, h.2.imp fun _ z => (of_hide z).1⟩
theorem cls_tup {K : PySem.W.Frag} {H : Hp} {g : GH} {xs : List Str} {C : Str} (E : ExcW K xs) (hC : C ∈ xs) : ∀ {ns : List Str} {vs : List V}, (∀ c ∈ ns, c ∈ upN :: xs) → Reps K H g vs (ns.map .gl) →
    ∃ us, Paired ClsV vs us ∧ PySem.W.kitAny K (.ref (He.ga K C)) us = some (ns.any (exSub C))
  | [], _, _, .nil => ⟨[], .nil, rfl⟩
  | n :: ns, _, hn, .cons r t => by
    obtain ⟨us, hP, hk⟩ := cls_tup E hC (fun c m => hn c (List.mem_cons_of_mem _ m)) t
    cases r with
    | @gl a _ e =>
      obtain ⟨p1, p2, p3⟩ := E.two C hC n (hn n List.mem_cons_self)
      rw [e] at p1; cases p1
      refine ⟨_, .cons (.own _) hP, kitAny_cons p3 (fun h => ?_) fun h => ?_⟩
      · rw [hk, List.any_cons, h]; rfl
      · rw [List.any_cons, h]; rfl
theorem ok_isE {K : PySem.W.Frag} {xs : List Str} (E : ExcW K xs) : RNOk K (fIsE xs) (rIsX K) := fun vs ds B H g Q0 Q r w q c => by
  unfold fIsE at q
  split at q
  · rename_i C n y
    obtain ⟨hC, hy, q⟩ := q
    match r with
    | .cons r1 (.cons r2 .nil) =>
      obtain ⟨a, c1, d, rfl, e1, t⟩ := r1.exc_inv
      obtain ⟨o1, o2, o3, o4, o5, o6⟩ := E.one C hC
      obtain ⟨p1, p2, p3⟩ := E.two C hC y hy
      rw [e1] at o1; cases o1
      cases r2 with
      | gl e2 =>
        rw [e2] at p1; cases p1
        exact .inl ⟨a, _, d, _, _, _, rfl, t.un, o2, fun u hu => hu, p3, c.here q (.bl _) w⟩
  · rename_i C n y
    obtain ⟨hC, rfl, q⟩ := q
    match r with
    | .cons r1 (.cons r2 .nil) =>
      obtain ⟨a, c1, d, rfl, e1, t⟩ := r1.exc_inv
      obtain ⟨o1, o2, o3, o4, o5, o6⟩ := E.one C hC
      rw [e1] at o1; cases o1
      cases r2
      exact .inl ⟨a, _, d, _, _, _, rfl, t.un, o2, fun u hu => hu, o5, c.here q (.bl _) w⟩
  · rename_i C n cs
    obtain ⟨hC, ns, rfl, hns, q⟩ := q
    match r with
    | .cons r1 (.cons r2 .nil) =>
      obtain ⟨a, c1, d, rfl, e1, t⟩ := r1.exc_inv
      obtain ⟨o1, o2, o3, o4, o5, o6⟩ := E.one C hC
      rw [e1] at o1; cases o1
      cases r2 with
      | @tup tp vs _ hT rv =>
        obtain ⟨us, hP, hk⟩ := cls_tup (C := C) E hC hns rv
        exact .inr ⟨a, _, tp, d, vs, us, _, rfl, t.un, o2, .inl (.inl (of_hide hT).1), hP, hk, c.here q (.bl _) w⟩
  · exact q.elim
end G3
/-! G3n: lists and tuples alike -/
namespace G3
open PySem PySem.Spec PyProof.Rows L2
/-- the items of a list or a tuple, and what must stand while it is walked -/
def seqOf (g : GH) (x : R) (k : List D → (GH → Prop) → Prop) : Prop := match x with
  | .tl ds => k ds fun _ => True
  | .v (.lst ds) => k ds fun _ => True
  | .v (.tup ds) => k ds fun _ => True
  | .v (.ref p) => ∃ ds, g p = some (.lst ds) ∧ k ds fun g' => g' p = some (.lst ds)
  | _ => False
theorem seqOf.cases {g : GH} {x : R} {k : List D → (GH → Prop) → Prop} (h : seqOf g x k) : ∃ ds, (lstOf g x ds ∧ k ds (gdOf x ds)) ∨ (tupOf x ds ∧ k ds fun _ => True) := by
  match x, h with
  | .tl ds, h => exact ⟨ds, .inl ⟨rfl, h⟩⟩
  | .v (.lst ds), h => exact ⟨ds, .inl ⟨rfl, h⟩⟩
  | .v (.tup ds), h => exact ⟨ds, .inr ⟨rfl, h⟩⟩
  | .v (.ref p), ⟨ds, h1, h2⟩ => exact ⟨ds, .inl ⟨h1, h2⟩⟩
/-! ### an item -/
def fIxA : R → R → GH → QK → Prop := fun x y g Q => match x, y with
  | .v (.str z), .v (.int i) => z.length ≤ sizeLine ∧ ∃ c, atI z.cps.toList i = some c ∧ Q (.v (.str ⟨#[c]⟩)) g
  | x, .v (.int i) => seqOf g x fun ds _ => ∃ d, atI ds i = some d ∧ Q (.v d) g
  | _, _ => False
def rIxA (K : PySem.W.Frag) : R2 := fun x y H Q => rIxL K x y H Q ∨ rIxT K x y H Q ∨ rIxS x y H Q
theorem ix_any {X : Cx} : IxR X (rIxA X.K) := fun a b pins s σ H x y v u Q I rx ry h e => by
  rcases h with h | h | h
  · exact ix_list a b pins s σ H x y v u Q I rx ry h e
  · exact ix_tup a b pins s σ H x y v u Q I rx ry h e
  · exact ix_str a b pins s σ H x y v u Q I rx ry h e
theorem ok_ixA {K : PySem.W.Frag} : R2Ok K fIxA (rIxA K) := fun x y d e B H g Q0 Q rx ry rg q c => by
  unfold fIxA at q
  split at q
  · exact .inr (.inr (ok_ixS x y _ _ B H g Q0 Q rx ry rg q c))
  · obtain ⟨ds, ⟨h, z, hz, q⟩ | ⟨h, z, hz, q⟩⟩ := q.cases
    · exact .inl (ok_ixL x y d _ B H g Q0 Q rx ry rg ⟨ds, z, h, hz, q⟩ c)
    · exact .inr (.inl (ok_ixT x y d _ B H g Q0 Q rx ry rg ⟨ds, z, h, hz, q⟩ c))
  · exact q.elim
/-! ### a slice -/
def fSlA : R → Option Int → Option Int → GH → QK → Prop := fun x lo hi g Q => match x with
  | .tl a => Q (.tl (cutD a lo hi)) g
  | .v (.lst a) => Q (.tl (cutD a lo hi)) g
  | .v (.rl a) => Q (.tl (cutD a lo hi)) g
  | .v (.tup a) => Q (.v (.tup (cutD a lo hi))) g
  | .v (.str z) => z.length ≤ sizeLine ∧ Q (.v (.str (cutS z lo hi))) g
  | .v (.ref p) => ∃ a, g p = some (.lst a) ∧ Q (.tl (cutD a lo hi)) g
  | _ => False
/-! ### put together -/
def fAddA : R → R → GH → QK → Prop := fun x y g Q => match x, y with
  | .v (.int i), .v (.int j) => Q (.v (.int (i + j))) g
  | .v (.str i), .v (.str j) => i.length + j.length ≤ sizeLine ∧ Q (.v (.str (i ++ j))) g
  | .v (.tup a), .v (.tup b) => a.length + b.length ≤ sizeLine ∧ Q (.v (.tup (a ++ b))) g
  | x, y => ∃ a b, lstOf g x a ∧ lstOf g y b ∧ a.length + b.length ≤ sizeLine ∧ Q (.tl (a ++ b)) g
def rAddA (K : PySem.W.Frag) : R2 := fun x y H Q => rI0 (fun i j => .int (i + j)) x y H Q ∨ (∃ i j, x = .str i ∧ y = .str j ∧ i.length + j.length ≤ sizeLine ∧ Q (.str (i ++ j)) H) ∨ rCatA K x y H Q ∨ rCat x y H Q
theorem op_addA {X : Cx} : OpR X (binaryOp .Add) (rAddA X.K) := fun pins s σ H x y v u Q I rx ry h => by
  rcases h with h | h | h | h
  · exact op_add pins s σ H x y v u Q I rx ry h
  · exact op_add_str pins s σ H x y v u Q I rx ry h
  · exact op_catA pins s σ H x y v u Q I rx ry h
  · exact op_cat pins s σ H x y v u Q I rx ry h
theorem ok_addA {K : PySem.W.Frag} : R2Ok K fAddA (rAddA K) := fun x y d e B H g Q0 Q rx ry rg q c => by
  unfold fAddA at q
  split at q
  · exact .inl ⟨_, _, int_of rx, int_of ry, c.here q (.int _) rg⟩
  · exact .inr (.inl ⟨_, _, str_of rx, str_of ry, q.1, c.here q.2 (.str _) rg⟩)
  · exact .inr (.inr (.inl (ok_addT x y _ _ B H g Q0 Q rx ry rg ⟨_, _, rfl, rfl, q⟩ c)))
  · exact .inr (.inr (.inr (ok_addL x y _ _ B H g Q0 Q rx ry rg q c)))
/-! ### in -/
def rInTD (K : PySem.W.Frag) (neg : Bool) : R2 := fun x y H Q => ∃ d ds, Dp K H x d ∧ Dp K H y (.tuple ds) ∧ SeqAt.shaped d = true ∧ SeqAt.shaped (.tuple ds) = true ∧ Q (.bl (neg ^^ ds.any fun z => PyData.eqv z d)) H
theorem op_inTD {X : Cx} (units : X.A.units + 65 < cLine) : OpR X (compareOp .In) (rInTD X.K false) := by
  rintro pins s σ H x y v u Q I rx ry ⟨d, ds, hd, he, sd, se, q⟩
  obtain ⟨as, r1⟩ := Dp.reads I d x v hd rx
  obtain ⟨bs, r2⟩ := Dp.reads I (.tuple ds) y u he ry
  refine SeqAt.in_tuple_reads r2 r1 (SeqAt.canLay_of_shaped se) (SeqAt.canLay_of_shaped sd) (room_in_shaped sd units) ⟨.bl _, H, I, rfl, ?_⟩
  rw [Bool.false_xor] at q; exact q
theorem op_ninTD {X : Cx} (units : X.A.units + 65 < cLine) : OpR X (compareOp .NotIn) (rInTD X.K true) := by
  rintro pins s σ H x y v u Q I rx ry ⟨d, ds, hd, he, sd, se, q⟩
  obtain ⟨as, r1⟩ := Dp.reads I d x v hd rx
  obtain ⟨bs, r2⟩ := Dp.reads I (.tuple ds) y u he ry
  refine SeqAt.notIn_tuple_reads r2 r1 (SeqAt.canLay_of_shaped se) (SeqAt.canLay_of_shaped sd) (room_in_shaped sd units) ⟨.bl _, H, I, rfl, ?_⟩
  rw [Bool.true_xor] at q; exact q
def fInA (neg : Bool) : R → R → GH → QK → Prop := fun x y g Q => seqOf g y fun a _ => okD 64 x.fz = true ∧ okDs 63 a = true ∧ Q (.v (.bl (neg ^^ inD x.fz a))) g
theorem fInT_dp {K : PySem.W.Frag} {H : Hp} {g : GH} {v : V} {r : R} {a : List D} (ry : Rep K H g v r.fz) (ha : tupOf r a) (ka : okDs 63 a = true) : Dp K H v (.tuple (pds a)) ∧ SeqAt.shaped (.tuple (pds a)) = true := by
  obtain ⟨p, vs, rfl, hp, r1⟩ := ha.rep ry
  have k : okD 64 (.tup a) = true := by simpa only [okD] using ka
  exact ⟨.tup hp (r1.dp 63 ka), okD_shaped k⟩
def rInA (K : PySem.W.Frag) (neg : Bool) : R2 := fun x y H Q => (if neg then rNotInD K x y H Q else rInD K x y H Q) ∨ rInTD K neg x y H Q
theorem op_inA {X : Cx} (units : X.A.units + 65 < cLine) : OpR X (compareOp .In) (rInA X.K false) := fun pins s σ H x y v u Q I rx ry h => by
  rcases h with h | h
  · exact op_inD units pins s σ H x y v u Q I rx ry h
  · exact op_inTD units pins s σ H x y v u Q I rx ry h
theorem op_ninA {X : Cx} (units : X.A.units + 65 < cLine) : OpR X (compareOp .NotIn) (rInA X.K true) := fun pins s σ H x y v u Q I rx ry h => by
  rcases h with h | h
  · exact op_notInD units pins s σ H x y v u Q I rx ry h
  · exact op_ninTD units pins s σ H x y v u Q I rx ry h
theorem ok_inA {K : PySem.W.Frag} {neg : Bool} : R2Ok K (fInA neg) (rInA K neg) := fun x y d e B H g Q0 Q rx ry rg q c => by
  obtain ⟨a, ⟨ha, kx, ka, q⟩ | ⟨ha, kx, ka, q⟩⟩ := q.cases
  · refine .inl ?_
    cases neg with
    | false => exact ok_inD x y d e B H g Q0 Q rx ry rg ⟨a, ha, kx, ka, by rw [Bool.false_xor] at q; exact q⟩ c
    | true => exact ok_notInD x y d e B H g Q0 Q rx ry rg ⟨a, ha, kx, ka, by rw [Bool.true_xor] at q; exact q⟩ c
  · obtain ⟨h1, h2⟩ := fInT_dp ry.un ha ka
    exact .inr ⟨_, _, rx.un.dp 64 kx, h1, okD_shaped kx, h2, by rw [pds_any]; exact c.here q (.bl _) rg⟩
/-! ### walked -/
def iSeqA (K : PySem.W.Frag) (tl : TE) : TI := fun σ H R => tl σ H fun x H1 => ∃ a, x = .ref a ∧ (((∃ xs, SqL K H1 a xs) ∧ R (Itl K a) H1) ∨ ((∃ xs, SqT K H1 a xs) ∧ R (Itt K a) H1))
theorem pi_seqA {X : Cx} {tg l : Expr} {tl : TE} (hl : PE X l tl) : PI X tg l (iSeqA X.K tl) := by
  constructor
  intro pins s σ H R I h
  refine thn (hl.run pins s σ H _ I h) ?_
  rintro v s1 ⟨x, H1, I1, r1, a, rfl, q⟩
  obtain rfl : v = Value.ref a := r1
  have fresh : ∀ (b : Addr), b ∈ [s1.heap.objs.size] → FpOk X pins H1 b ∧ b < (s1.heap.push (default : Obj)).objs.size → True := fun _ _ _ => trivial
  rcases q with ⟨⟨xs, hq⟩, q⟩ | ⟨⟨xs, hq⟩, q⟩
  · obtain ⟨its, rv, p, hz⟩ := I1.list hq
    refine wpAny_pyIter_list p.isList ⟨s1.heap.objs.size, [s1.heap.objs.size], _, _, H1, rfl, I1.kept (t' := s1.toks) fun b o e => Heap.get?_push_of_some _ e, turn_list a _, ⟨_, Heap.get?_push_size _ rfl, rfl, rfl⟩, fun b hb => ?_, q⟩
    obtain rfl : b = s1.heap.objs.size := by simpa using hb
    exact I1.fpOk (Nat.le_refl _) (I1.hok.fresh (Nat.le_refl _))
  · obtain ⟨its, rv, p, hz⟩ := I1.tuple hq
    refine wpAny_pyIter_tuple (show s1.heap.IsTuple a its.toArray from p) ⟨s1.heap.objs.size, [s1.heap.objs.size], _, _, H1, rfl, I1.kept (t' := s1.toks) fun b o e => Heap.get?_push_of_some _ e, turn_tuple a _, ⟨_, Heap.get?_push_size _ rfl, rfl, rfl⟩, fun b hb => ?_, q⟩
    obtain rfl : b = s1.heap.objs.size := by simpa using hb
    exact I1.fpOk (Nat.le_refl _) (I1.hok.fresh (Nat.le_refl _))
def wSeqA (ta : TD) : TID := fun ρ g Q W => ta ρ g (fun r g1 => seqOf g1 r fun ds gd => Q ds gd g1) W
def wEnumA (tr : TAD) : TID := fun ρ g Q W => tr ρ g (fun ds g1 => match ds with | [d] => seqOf g1 (.v d) fun xs gd => Q (enumD 0 xs) gd g1 | _ => False) W
section
variable {X : Cx} {e tg : Expr} {ta : TD} {tr : TAD} {E : L2.St → XK}
theorem q_seqA (h : PI X tg e (iSeqA X.K (LE X.K E ta))) : PI X tg e (LI X.K E (wSeqA ta)) :=
  PI.of h fun σ H R ⟨B, ρ, g, Q0, W0, rs, rg, t, c, xc⟩ =>
    ⟨B, ρ, g, _, W0, rs, rg, t, fun r g1 x H1 q rd rg1 f1 _ => by
      obtain ⟨xs, ⟨hl, hq⟩ | ⟨hl, hq⟩⟩ := q.cases
      · obtain ⟨a, vs, rfl, ha, rv, io⟩ := lstOf.cases rg1 rd hl
        exact ⟨a, rfl, .inl ⟨⟨vs, .inl (.inl ha)⟩, c xs _ g1 _ H1 hq io rg1 f1⟩⟩
      · obtain ⟨a, vs, rfl, ha, rv⟩ := hl.rep rd
        exact ⟨a, rfl, .inr ⟨⟨vs, sqT_un ha⟩, c xs _ g1 _ H1 hq (itT ha rg1 rv) rg1 f1⟩⟩, xc⟩
theorem q_enumA (h : PI X tg e (iEnA X.K (LA X.K E tr))) : PI X tg e (LI X.K E (wEnumA tr)) :=
  PI.of h fun σ H R ⟨B, ρ, g, Q0, W0, rs, rg, t, c, xc⟩ => ⟨B, ρ, g, _, W0, rs, rg, t, fun ds g1 vs H1 hq rd w1 f1 => by
    match ds, rd, hq with
    | [d], .cons r .nil, q =>
      obtain ⟨xs, ⟨hl, hq⟩ | ⟨hl, hq⟩⟩ := seqOf.cases q
      · obtain ⟨a, ws, rfl, ha, rv, io⟩ := lstOf.cases (r := .v d) w1 r hl
        exact ⟨a, ws, rfl, .inl ⟨.inl (.inl ha), c _ _ g1 _ H1 hq (itEL io) w1 f1⟩⟩
      · obtain ⟨a, ws, rfl, ha, rv⟩ := tupOf.rep (r := .v d) r hl
        exact ⟨a, ws, rfl, .inr ⟨sqT_un ha, c _ _ g1 _ H1 hq (itET ha w1 rv) w1 f1⟩⟩, xc⟩
end
end G3
/-! G3: zip of a tuple with a list, by the kit's zip over iterators of any kind -/
namespace G3
open PySem L2
/-- a tuple's items, a list's as it stands, in new pairs -/
def ItzM (K : PySem.W.Frag) (a b : Addr) : It where
  go i H := ∃ (xs ys : List V) (x y : V), SqT K H a xs ∧ SqL K H b ys ∧ xs[i]? = some x ∧ ys[i]? = some y
  yld i H v H' := ∃ T x y, v = .ref T ∧ H T = none ∧ H' = upd H T (.tup [x, y]) ∧ (∀ xs, SqT K H a xs → xs[i]? = some x) ∧ ∀ ys, SqL K H b ys → ys[i]? = some y
  stop i H := ∃ xs ys : List V, SqT K H a xs ∧ SqL K H b ys ∧ i ≤ xs.length ∧ i ≤ ys.length ∧ (i = xs.length ∨ i = ys.length)
theorem turn_zipM {P : Program} {w : World} {K : PySem.W.Frag} {elts : List Expr} {kk : Nat} {tpos : Pos} {a b z TI TO i1 i2 : Addr} (S : ZipSep2 z TI TO i1 i2 [i1, a] [i2, b]) :
    Turn P w K (.Tuple elts kk tpos) (ItzM K a b) [z, TI, TO, i1, i2] z (fun i h => IsZip h z TI TO .none ∧ IsTupOf2 h TI (.ref i1) (.ref i2) ∧ (∃ x y, IsTupOf2 h TO x y) ∧ h.IsTupleIter i1 a i ∧ h.IsListIter i2 b i) where
  mem := by simp
  obj := by
    rintro i h ⟨hz, hTI, ⟨x, y, hTO⟩, ⟨o1, e1, _, d1⟩, ⟨o2, e2, _, d2⟩⟩ c hc
    rcases (show c = z ∨ c = TI ∨ c = TO ∨ c = i1 ∨ c = i2 by simpa using hc) with rfl | rfl | rfl | rfl | rfl
    · exact ⟨_, hz, fun v q => nomatch q⟩
    · exact ⟨_, hTI, fun v q => nomatch q⟩
    · exact ⟨_, hTO, fun v q => nomatch q⟩
    · exact ⟨o1, e1, fun v q => by rw [d1] at q; cases q⟩
    · exact ⟨o2, e2, fun v q => by rw [d2] at q; cases q⟩
  keep := by
    rintro i h h' ⟨hz, hTI, ⟨x, y, hTO⟩, h1, h2⟩ k
    exact ⟨k z (by simp) _ hz, k TI (by simp) _ hTI, ⟨x, y, k TO (by simp) _ hTO⟩, h1.at fun o q => k i1 (by simp) o q, h2.at fun o q => k i2 (by simp) o q⟩
  item := by
    intro X hP hw hK hc i pins s σ H E I hf st hg
    subst hP hw hK
    obtain ⟨hz, hTI, ⟨x0, y0, hTO⟩, h1, h2⟩ := st
    obtain ⟨xs, ys, x, y, hqx, hqy, hx, hy⟩ := hg
    obtain ⟨its, rv, p, _⟩ := I.tuple hqx
    obtain ⟨its2, rv2, p2, _⟩ := I.list hqy
    obtain ⟨u, hu, ru⟩ := rv.get hx
    obtain ⟨u2, hu2, ru2⟩ := rv2.get hy
    have hzl : z < s.heap.objs.size := Heap.lt_size hz
    have pT : s.heap.IsTuple a its.toArray := p
    have ha1 : a ≠ i1 := fun e => by
      obtain ⟨o, e1, c1, _⟩ := id h1
      obtain ⟨o', e2, c2, _⟩ := id pT
      rw [e] at e2; rw [e1] at e2; cases e2; rw [c1] at c2; simp at c2
    have hb2 : b ≠ i2 := fun e => by
      obtain ⟨o, e1, c1, _⟩ := id h2
      obtain ⟨o', e2, c2, _⟩ := id p2.isList
      rw [e] at e2; rw [e1] at e2; cases e2; rw [c1] at c2; simp at c2
    have n1 : i < its.toArray.size := by rw [List.size_toArray]; exact (List.getElem?_eq_some_iff.mp hu).1
    have n2 : i < its2.toArray.size := by rw [List.size_toArray]; exact (List.getElem?_eq_some_iff.mp hu2).1
    refine wpAny_pyNext_zipD2_item S (Draws.tuple (A := X.A.in1) (I.ok.hd hc) i1 a ha1 its.toArray) (Draws.list (A := X.A.in1) (I.ok.hd hc) i2 b hb2 its2.toArray) hz hTI hTO ⟨h1, pT⟩ ⟨h2, p2.isList⟩ n1 n2 ?_
    intro w1 w2 h' tk hw1 hw2 z' TO' h1' h2' hT hsz hk
    obtain rfl : w1 = u := by
      have : its[i]? = some w1 := by simpa using hw1
      rw [hu] at this; cases this; rfl
    obtain rfl : w2 = u2 := by
      have : its2[i]? = some w2 := by simpa using hw2
      rw [hu2] at this; cases this; rfl
    refine ⟨_, rfl, wpAny_letOwnedTupleGo_zip (s := { s with heap := h', toks := tk }) z' fun h'' z'' sb => ?_⟩
    have hT2 : h''.get? s.heap.objs.size = some { cls := .type "tuple", data := .seq #[w1, w2] } := (sb.2 _ (Nat.ne_of_gt hzl)).trans hT
    have new : ObjOk X.prog X.w (upd H s.heap.objs.size (.tup [x, y])) h'' s.heap.objs.size (.tup [x, y]) :=
      ⟨by show 2 ≤ sizeLine; decide, [w1, w2], .cons ru (.cons ru2 .nil), ⟨_, hT2, rfl, _, rfl⟩⟩
    have I1 : Inv X pins σ (upd H s.heap.objs.size (.tup [x, y])) { s with heap := h'', toks := tk } := by
      refine I.turnedNew (ch := [z, TI, TO, i1, i2]) (fun c o hb q => ?_) hf (Nat.le_refl _) new
      have n := fun q' => hb q'
      have k1 : c ≠ z := fun q' => n (by simp [q'])
      have k2 : c ≠ TO := fun q' => n (by simp [q'])
      have k3 : c ≠ i1 := fun q' => n (by simp [q'])
      have k4 : c ≠ i2 := fun q' => n (by simp [q'])
      exact (sb.2 c k1).trans (hk c o k1 k2 k3 k4 q)
    refine ⟨.ref s.heap.objs.size, _, I1, rfl, ⟨_, x, y, rfl, I.hok.fresh (Nat.le_refl _), rfl, fun l hl => by rw [I.tuple_inj hl hqx]; exact hx, fun l hl => by rw [I.list_inj hl hqy]; exact hy⟩, ⟨z'', ?_, ⟨w1, w2, ?_⟩, ?_, ?_⟩, fun c hcm => ?_⟩
    · exact (sb.2 _ S.TIz).trans (hk _ _ S.TIz S.TITO S.TIi1 S.TIi2 hTI)
    · exact (sb.2 _ S.TOz).trans TO'
    · exact h1'.1.at fun o q => (sb.2 _ (Ne.symm S.zi1)).trans q
    · exact h2'.1.at fun o q => (sb.2 _ (Ne.symm S.zi2)).trans q
    · have hlt : c < s.heap.objs.size := by
        rcases (show c = z ∨ c = TI ∨ c = TO ∨ c = i1 ∨ c = i2 by simpa using hcm) with rfl | rfl | rfl | rfl | rfl
        · exact hzl
        · exact Heap.lt_size hTI
        · exact Heap.lt_size hTO
        · obtain ⟨_, e1, _⟩ := h1; exact Heap.lt_size e1
        · obtain ⟨_, e2, _⟩ := h2; exact Heap.lt_size e2
      rw [upd_ne (Nat.ne_of_lt hlt)]
      exact (hf c hcm).1
  done := by
    intro X hP hw hK hc i pins s σ H E I hf st hg
    subst hP hw hK
    obtain ⟨hz, hTI, ⟨x0, y0, hTO⟩, h1, h2⟩ := st
    obtain ⟨xs, ys, hqx, hqy, hle1, hle2, hend⟩ := hg
    obtain ⟨its, rv, p, _⟩ := I.tuple hqx
    obtain ⟨its2, rv2, p2, _⟩ := I.list hqy
    have pT : s.heap.IsTuple a its.toArray := p
    have ha1 : a ≠ i1 := fun e => by
      obtain ⟨o, e1, c1, _⟩ := id h1
      obtain ⟨o', e2, c2, _⟩ := id pT
      rw [e] at e2; rw [e1] at e2; cases e2; rw [c1] at c2; simp at c2
    have hb2 : b ≠ i2 := fun e => by
      obtain ⟨o, e1, c1, _⟩ := id h2
      obtain ⟨o', e2, c2, _⟩ := id p2.isList
      rw [e] at e2; rw [e1] at e2; cases e2; rw [c1] at c2; simp at c2
    have l1 : its.toArray.size = xs.length := by rw [List.size_toArray]; exact rv.length.symm
    have l2 : its2.toArray.size = ys.length := by rw [List.size_toArray]; exact rv2.length.symm
    refine wpAny_pyNext_zipD2_end S (Draws.tuple (A := X.A.in1) (I.ok.hd hc) i1 a ha1 its.toArray) (Draws.list (A := X.A.in1) (I.ok.hd hc) i2 b hb2 its2.toArray) hz hTI hTO ⟨h1, pT⟩ ⟨h2, p2.isList⟩ (by omega) (by omega) (by rw [l1, l2]; exact hend) ?_
    intro h' tk hk
    refine ⟨rfl, ?_⟩
    refine I.turnedL (ch := [z, TI, TO, i1, i2]) (fun c o hb q => ?_) hf
    exact hk c o (fun q' => hb (by simp [q'])) (fun q' => hb (by simp [q'])) (fun q' => hb (by simp [q'])) (fun q' => hb (by simp [q'])) q
  self := by
    rintro A i s Q E ⟨hz, _⟩ h
    exact wpAny_pyIter_zip hz h
/-- two lists, two tuples, a tuple and a list -/
def iZipB (K : PySem.W.Frag) (ta : TA) : TI := fun σ H R => ta σ H fun vs H1 => ∃ a b xs ys, vs = [.ref a, .ref b] ∧ ((SqL K H1 a xs ∧ SqL K H1 b ys ∧ R (Itz K a b) H1) ∨ (SqT K H1 a xs ∧ SqT K H1 b ys ∧ R (RZ.ItzT K a b) H1) ∨ (SqT K H1 a xs ∧ SqL K H1 b ys ∧ R (ItzM K a b) H1))
theorem pi_zipB {X : Cx} {e e2 : Expr} {ta : TA} {p pos tpos : Pos} {elts : List Expr} {kk : Nat} (hg : Gl X "zip") (hm : X.mg "zip" = none) (ha : PA X [e, e2] ta)
    (hs : starEach [e, e2] X.env = (false, eval e X.env) :: starEach [e2] X.env := by rfl) (hpl : (backTo pos (starEach [e2] X.env)).any (·.1) = false := by rfl) :
    PI X (.Tuple elts kk tpos) (.Call (.Name "zip" p) [e, e2] [] pos) (iZipB X.K ta) := by
  constructor
  intro pins s σ H R I h
  refine PyProof.Rows.Call_ (ld_blt I hg hm PyProof.Rows.boot_zip (PyProof.Rows.callWith_type1 (thn (ha.run pos pins s σ H _ I h) ?_) hs hpl))
  rintro us s1 ⟨vs, H1, I1, r1, a, b, xs, ys, rfl, q⟩
  match us, r1 with
  | [_, _], .cons rfl (.cons rfl .nil) =>
    have five : ∀ c, c ∈ [s1.heap.objs.size + 4, s1.heap.objs.size + 2, s1.heap.objs.size + 3, s1.heap.objs.size, s1.heap.objs.size + 1] → FpOk X pins H1 c := fun c hcm => by
      have hle : s1.heap.objs.size ≤ c := by
        rcases (show c = s1.heap.objs.size + 4 ∨ c = s1.heap.objs.size + 2 ∨ c = s1.heap.objs.size + 3 ∨ c = s1.heap.objs.size ∨ c = s1.heap.objs.size + 1 by simpa using hcm) with z | z | z | z | z <;> omega
      exact I1.fpOk hle (I1.hok.fresh hle)
    rcases q with ⟨hqx, hqy, q⟩ | ⟨hqx, hqy, q⟩ | ⟨hqx, hqy, q⟩
    · obtain ⟨its, rv, p1, _⟩ := I1.list hqx
      obtain ⟨its2, rv2, p2, _⟩ := I1.list hqy
      refine call_zip_2 p1.isList p2.isList fun h' hz hTI hTO h1 h2 _ hk => wpAny_pyIter_zip hz ?_
      exact ⟨_, _, _, _, H1, rfl, I1.kept (t' := s1.toks) hk, turn_zip (PySem.W.ktu_apart s1.heap.objs.size a b p1.lt p2.lt), ⟨hz, hTI, ⟨_, _, hTO⟩, h1, h2⟩, five, q⟩
    · obtain ⟨its, rv, p1, _⟩ := I1.tuple hqx
      obtain ⟨its2, rv2, p2, _⟩ := I1.tuple hqy
      obtain ⟨o1, ho1, _⟩ := id p1
      obtain ⟨o2, ho2, _⟩ := id p2
      refine RZ.call_zipT (show s1.heap.IsTuple a its.toArray from p1) (show s1.heap.IsTuple b its2.toArray from p2) fun h' hz hTI hTO h1 h2 _ hk => wpAny_pyIter_zip hz ?_
      exact ⟨_, _, _, _, H1, rfl, I1.kept (t' := s1.toks) hk, RZ.turn_zipT (PySem.W.ktu_apart s1.heap.objs.size a b (Heap.lt_size ho1) (Heap.lt_size ho2)), ⟨hz, hTI, ⟨_, _, hTO⟩, h1, h2⟩, five, q⟩
    · obtain ⟨its, rv, p1, _⟩ := I1.tuple hqx
      obtain ⟨its2, rv2, p2, _⟩ := I1.list hqy
      obtain ⟨o1, ho1, _⟩ := id p1
      have hla : ∀ c ∈ [a], c < s1.heap.objs.size := fun c hc => by rw [List.mem_singleton.mp hc]; exact Heap.lt_size ho1
      have hlb : ∀ c ∈ [b], c < s1.heap.objs.size := fun c hc => by rw [List.mem_singleton.mp hc]; exact p2.lt
      refine zip_begins2 (begins_tuple a its.toArray) (begins_list b its2.toArray) (show s1.heap.IsTuple a its.toArray from p1) p2.isList fun h' hz hTI hTO h1 h2 _ hk => wpAny_pyIter_zip hz ?_
      exact ⟨_, _, _, _, H1, rfl, I1.kept (t' := s1.toks) hk, turn_zipM (zip_sep2 hla hlb), ⟨hz, hTI, ⟨_, _, hTO⟩, ⟨_, h1, rfl, rfl⟩, ⟨_, h2, rfl, rfl⟩⟩, five, q⟩
end G3
/-! G3o: zip, range with a step, reversed lists; the least and the greatest of a tuple -/
namespace G3
open PySem PySem.Spec PyProof.Rows L2 PySem.W
/-! ### zip -/
def zipD (xs ys : List D) : List D := (xs.zip ys).map fun p => .tup [p.1, p.2]
theorem zipD_len {xs ys : List D} : (zipD xs ys).length = min xs.length ys.length := by unfold zipD; rw [List.length_map, List.length_zip]
theorem zipD_get {xs ys : List D} {i : Nat} {d : D} (h : (zipD xs ys)[i]? = some d) : ∃ x y, xs[i]? = some x ∧ ys[i]? = some y ∧ d = .tup [x, y] := by
  unfold zipD at h
  rw [List.getElem?_map] at h
  cases e : (xs.zip ys)[i]? with
  | none => rw [e] at h; cases h
  | some p =>
    rw [e] at h; cases h
    obtain ⟨h1, h2⟩ := List.getElem?_zip_eq_some.mp e
    exact ⟨p.1, p.2, h1, h2, rfl⟩
theorem two_ok {K : PySem.W.Frag} {B : List Addr} {H : Hp} {g : GH} {v u : V} {d e : D} {T : Addr} (w : Vw K B H g) (r : Rep K (hide H B) g v d) (q : Rep K (hide H B) g u e) (hT : H T = none) :
    Rep K (hide (upd H T (.tup [v, u])) B) g (.ref T) (.tup [d, e]) ∧ Vw K B (upd H T (.tup [v, u])) g ∧ Fr H g (upd H T (.tup [v, u])) g := by
  obtain ⟨f, w', _⟩ := Fr.laidV (u := .tup [v, u]) hT w
  exact ⟨.tup (by rw [hide_out (w.new hT)]; exact upd_same) (.cons (r.fv w f) (.cons (q.fv w f) .nil)), w', f⟩
theorem itZ {K : PySem.W.Frag} {B : List Addr} {H0 : Hp} {g0 : GH} {a b : Addr} {xs ys : List D} {gd1 gd2 : GH → Prop} (i1 : ItOk K B H0 g0 (Itl K a) xs gd1) (i2 : ItOk K B H0 g0 (Itl K b) ys gd2) :
    ItOk K B H0 g0 (Itz K a b) (zipD xs ys) fun g => gd1 g ∧ gd2 g := by
  intro B' i H g sB nB w f ⟨q1, q2⟩
  obtain ⟨g1, s1⟩ := i1 B' i H g sB nB w f q1
  obtain ⟨g2, s2⟩ := i2 B' i H g sB nB w f q2
  refine ⟨fun d hd => ?_, fun hi => ?_⟩
  · obtain ⟨x, y, hx, hy, rfl⟩ := zipD_get hd
    obtain ⟨⟨vs, v, a1, a2⟩, y1⟩ := g1 x hx
    obtain ⟨⟨us, u, b1, b2⟩, y2⟩ := g2 y hy
    refine ⟨⟨vs, us, v, u, a1, b1, a2, b2⟩, ?_⟩
    rintro z H' ⟨T, p, q, rfl, hT, rfl, e1, e2⟩
    obtain ⟨r1, _, _⟩ := y1 p H ⟨rfl, e1⟩
    obtain ⟨r2, _, _⟩ := y2 q H ⟨rfl, e2⟩
    exact two_ok w r1 r2 hT
  · rw [zipD_len] at hi
    have side : ∀ {c : Addr} {zs : List D}, (∀ d, zs[i]? = some d → (Itl K c).go i H) → (i = zs.length → (Itl K c).stop i H) → i ≤ zs.length → ∃ vs, SqL K H c vs ∧ (i = zs.length → vs.length ≤ i) := by
      intro c zs hg hs hle
      by_cases e : i = zs.length
      · obtain ⟨vs, h1, h2⟩ := hs e
        exact ⟨vs, h1, fun _ => h2⟩
      · obtain ⟨vs, _, h1, _⟩ := hg _ (List.getElem?_eq_getElem (show i < zs.length by omega))
        exact ⟨vs, h1, fun z => absurd z e⟩
    obtain ⟨vs, h1, k1⟩ := side (c := a) (fun d h => (g1 d h).1) s1 (by omega)
    obtain ⟨us, h2, k2⟩ := side (c := b) (fun d h => (g2 d h).1) s2 (by omega)
    refine ⟨vs, us, h1, h2, ?_⟩
    by_cases e : i = xs.length
    · exact .inl (k1 e)
    · exact .inr (k2 (by omega))
theorem itZT {K : PySem.W.Frag} {B : List Addr} {H0 : Hp} {g0 : GH} {a b : Addr} {xs ys : List D} (i1 : ItOk K B H0 g0 (Itt K a) xs fun _ => True) (i2 : ItOk K B H0 g0 (Itt K b) ys fun _ => True) :
    ItOk K B H0 g0 (RZ.ItzT K a b) (zipD xs ys) fun _ => True := by
  intro B' i H g sB nB w f _
  obtain ⟨g1, s1⟩ := i1 B' i H g sB nB w f trivial
  obtain ⟨g2, s2⟩ := i2 B' i H g sB nB w f trivial
  refine ⟨fun d hd => ?_, fun hi => ?_⟩
  · obtain ⟨x, y, hx, hy, rfl⟩ := zipD_get hd
    obtain ⟨⟨vs, v, a1, a2⟩, y1⟩ := g1 x hx
    obtain ⟨⟨us, u, b1, b2⟩, y2⟩ := g2 y hy
    refine ⟨⟨vs, us, v, u, a1, b1, a2, b2⟩, ?_⟩
    rintro z H' ⟨T, p, q, rfl, hT, rfl, e1, e2⟩
    obtain ⟨r1, _, _⟩ := y1 p H ⟨rfl, e1⟩
    obtain ⟨r2, _, _⟩ := y2 q H ⟨rfl, e2⟩
    exact two_ok w r1 r2 hT
  · rw [zipD_len] at hi
    have side : ∀ {c : Addr} {zs : List D}, (∀ d, zs[i]? = some d → (Itt K c).go i H) → (i = zs.length → (Itt K c).stop i H) → i ≤ zs.length → ∃ vs, SqT K H c vs ∧ (i = zs.length → vs.length ≤ i) := by
      intro c zs hg hs hle
      by_cases e : i = zs.length
      · obtain ⟨vs, h1, h2⟩ := hs e
        exact ⟨vs, h1, fun _ => h2⟩
      · obtain ⟨vs, _, h1, _⟩ := hg _ (List.getElem?_eq_getElem (show i < zs.length by omega))
        exact ⟨vs, h1, fun z => absurd z e⟩
    obtain ⟨vs, h1, k1⟩ := side (c := a) (fun d h => (g1 d h).1) s1 (by omega)
    obtain ⟨us, h2, k2⟩ := side (c := b) (fun d h => (g2 d h).1) s2 (by omega)
    refine ⟨vs, us, h1, h2, ?_⟩
    by_cases e : i = xs.length
    · exact .inl (k1 e)
    · exact .inr (k2 (by omega))
/-- a list as it stands at each turn -/
theorem lstOf.now {K : PySem.W.Frag} {B : List Addr} {H : Hp} {g : GH} {v : V} {r : R} {ys : List D} (G : Vw K B H g) (h : Rep K (hide H B) g v r.fz) (l : lstOf g r ys) : ∃ b us0, v = .ref b ∧ H b = some (.lst us0) ∧
    ∀ B' H' g', (∀ b ∈ B, b ∈ B') → (∀ b ∈ B', b ∉ B → H b = none) → Vw K B' H' g' → Fr H g H' g' → gdOf r ys g' → ∃ us, SqL K H' b us ∧ Reps K (hide H' B') g' us ys := by
  match r, h, l with
  | .tl ds, .lst h k q, l =>
    cases l
    refine ⟨_, _, rfl, (of_hide h).1, fun B' H' g' _ n _ f _ => ?_⟩
    exact ⟨_, .inl (.inl (f.keep _ _ (of_hide h).1 k).1), q.more G f n⟩
  | .v (.lst ds), .lst h k q, l =>
    cases l
    refine ⟨_, _, rfl, (of_hide h).1, fun B' H' g' _ n _ f _ => ?_⟩
    exact ⟨_, .inl (.inl (f.keep _ _ (of_hide h).1 k).1), q.more G f n⟩
  | .v (.ref a), .ref _, l =>
    obtain ⟨u, hu, q⟩ := G.rg a _ l
    cases q with
    | lst q =>
      refine ⟨a, _, rfl, (of_hide hu).1, fun B' H' g' _ n w f hg => ?_⟩
      obtain ⟨u', hu', q'⟩ := w.rg a _ hg
      cases q' with
      | lst q' => exact ⟨_, .inl (.inl (of_hide hu').1), q'⟩
theorem itZM {K : PySem.W.Frag} {B : List Addr} {H0 : Hp} {g0 : GH} {a b : Addr} {vs : List V} {xs ys : List D} {gd : GH → Prop} (h : SqT K (hide H0 B) a vs) (G : Vw K B H0 g0) (r : Reps K (hide H0 B) g0 vs xs)
    (now : ∀ B' H' g', (∀ b ∈ B, b ∈ B') → (∀ b ∈ B', b ∉ B → H0 b = none) → Vw K B' H' g' → Fr H0 g0 H' g' → gd g' → ∃ us, SqL K H' b us ∧ Reps K (hide H' B') g' us ys) :
    ItOk K B H0 g0 (ItzM K a b) (zipD xs ys) gd := by
  intro B' i H g sB nB w f hg
  have h' : SqT K H a vs := sqT_un ((f.hd B).sqT G.rg h)
  have r' := r.more G f nB
  obtain ⟨us, hu, ru⟩ := now B' H g sB nB w f hg
  have l1 := r'.length
  have l2 := ru.length
  refine ⟨fun d hd => ?_, fun hi => ?_⟩
  · obtain ⟨x, y, hx, hy, rfl⟩ := zipD_get hd
    obtain ⟨v, hv, q1⟩ := r'.get hx
    obtain ⟨u, hu', q2⟩ := ru.get hy
    refine ⟨⟨vs, us, v, u, h', hu, hv, hu'⟩, ?_⟩
    rintro z H' ⟨T, p, q, rfl, hT, rfl, e1, e2⟩
    have e1 := e1 vs h'
    have e2 := e2 us hu
    rw [hv] at e1; cases e1
    rw [hu'] at e2; cases e2
    exact two_ok w q1 q2 hT
  · rw [zipD_len] at hi
    exact ⟨vs, us, h', hu, by omega, by omega, by omega⟩
/-- two lists, two tuples, a tuple and a list -/
def wZip (tr : TAD) : TID := fun ρ g Q W => tr ρ g (fun ds g1 => match ds with
  | [.tup xs, .tup ys] => Q (zipD xs ys) (fun _ => True) g1
  | [.tup xs, e] => ∃ ys, lstOf g1 (.v e) ys ∧ Q (zipD xs ys) (gdOf (.v e) ys) g1
  | [d, e] => ∃ xs ys, lstOf g1 (.v d) xs ∧ lstOf g1 (.v e) ys ∧ Q (zipD xs ys) (fun g' => gdOf (.v d) xs g' ∧ gdOf (.v e) ys g') g1
  | _ => False) W
section
variable {X : Cx} {e tg : Expr} {tr : TAD} {E : L2.St → XK}
theorem q_zip (h : PI X tg e (iZipB X.K (LA X.K E tr))) : PI X tg e (LI X.K E (wZip tr)) :=
  PI.of h fun σ H R ⟨B, ρ, g, Q0, W0, rs, rg, t, c, xc⟩ => ⟨B, ρ, g, _, W0, rs, rg, t, fun ds g1 vs H1 hq rd w1 f1 => by
    dsimp only at hq
    split at hq
    · match rd with
      | .cons r1 (.cons r2 .nil) =>
        obtain ⟨a, ws, rfl, ha, rv⟩ := tupOf.rep (r := .v (.tup _)) r1 rfl
        obtain ⟨b, us, rfl, hb, ru⟩ := tupOf.rep (r := .v (.tup _)) r2 rfl
        exact ⟨a, b, ws, us, rfl, .inr (.inl ⟨sqT_un ha, sqT_un hb, c _ _ g1 _ H1 hq (itZT (itT ha w1 rv) (itT hb w1 ru)) w1 f1⟩)⟩
    · rename_i xs d2 _
      obtain ⟨ys, hy, hq⟩ := hq
      match rd with
      | .cons r1 (.cons r2 .nil) =>
        obtain ⟨a, ws, rfl, ha, rv⟩ := tupOf.rep (r := .v (.tup _)) r1 rfl
        obtain ⟨b, us0, rfl, hb, now⟩ := lstOf.now (r := .v _) w1 r2 hy
        exact ⟨a, b, ws, us0, rfl, .inr (.inr ⟨sqT_un ha, .inl (.inl hb), c _ _ g1 _ H1 hq (itZM ha w1 rv now) w1 f1⟩)⟩
    · rename_i d d2 _ _
      obtain ⟨xs, ys, hx, hy, hq⟩ := hq
      match rd with
      | .cons r1 (.cons r2 .nil) =>
        obtain ⟨a, ws, rfl, ha, rv, io1⟩ := lstOf.cases (r := .v _) w1 r1 hx
        obtain ⟨b, us, rfl, hb, ru, io2⟩ := lstOf.cases (r := .v _) w1 r2 hy
        exact ⟨a, b, ws, us, rfl, .inl ⟨.inl (.inl ha), .inl (.inl hb), c _ _ g1 _ H1 hq (itZ io1 io2) w1 f1⟩⟩
    · exact hq.elim, xc⟩
end
/-! ### the least, the greatest of a tuple of whole numbers -/
theorem foldl_min : ∀ (ns : List Int) (n : Int), ns.foldl min n ∈ n :: ns ∧ ∀ y ∈ n :: ns, ns.foldl min n ≤ y
  | [], n => by simp
  | k :: ns, n => by
    obtain ⟨h1, h2⟩ := foldl_min ns (min n k)
    refine ⟨?_, fun y hy => ?_⟩
    · rw [List.foldl_cons]
      rcases List.mem_cons.mp h1 with e | e
      · rw [e]
        rcases Int.min_def n k ▸ (by split <;> simp : (if n ≤ k then n else k) = n ∨ (if n ≤ k then n else k) = k) with e | e <;> rw [e] <;> simp
      · simp [e]
    · rw [List.foldl_cons]
      have := h2 (min n k) List.mem_cons_self
      rcases List.mem_cons.mp hy with e | hy
      · rw [e]; omega
      · rcases List.mem_cons.mp hy with e | hy
        · rw [e]; omega
        · exact h2 y (List.mem_cons_of_mem _ hy)
theorem foldl_max : ∀ (ns : List Int) (n : Int), ns.foldl max n ∈ n :: ns ∧ ∀ y ∈ n :: ns, y ≤ ns.foldl max n
  | [], n => by simp
  | k :: ns, n => by
    obtain ⟨h1, h2⟩ := foldl_max ns (max n k)
    refine ⟨?_, fun y hy => ?_⟩
    · rw [List.foldl_cons]
      rcases List.mem_cons.mp h1 with e | e
      · rw [e]
        rcases Int.max_def n k ▸ (by split <;> simp : (if n ≤ k then k else n) = n ∨ (if n ≤ k then k else n) = k) with e | e <;> rw [e] <;> simp
      · simp [e]
    · rw [List.foldl_cons]
      have := h2 (max n k) List.mem_cons_self
      rcases List.mem_cons.mp hy with e | hy
      · rw [e]; omega
      · rcases List.mem_cons.mp hy with e | hy
        · rw [e]; omega
        · exact h2 y (List.mem_cons_of_mem _ hy)
theorem reps_intsO {K : PySem.W.Frag} {H : Hp} {g : GH} : ∀ {bs : List Int} {vs : List V}, Reps K H g vs (bs.map .int) → vs = bs.map V.int
  | [], _, .nil => rfl
  | b :: bs, _, .cons r t => by rw [int_of r, reps_intsO t]; rfl
section
variable {X : Cx}
theorem reads_ints {h : Heap} : ∀ {its : List Value} {ns : List Int}, Vals (ns.map V.int) its → ∃ as, ReadsAll h its (ns.map PyData.int) as
  | [], [], _ => ⟨_, .nil⟩
  | _ :: _, [], r => nomatch r
  | [], _ :: _, r => nomatch r
  | u :: us, n :: ns, .cons r t => by
    obtain ⟨tk, rfl⟩ := r
    obtain ⟨as, q⟩ := reads_ints (h := h) t
    exact ⟨_, .cons (.int n tk) q⟩
theorem min_tup {pins : List (Addr × Obj)} {σ : L2.St} {H : Hp} {s : Shared} {Q : VK} {a : Addr} {n : Int} {ns : List Int} (I : Inv X pins σ H s) (hc : X.calm = true) (units : X.A.units + 2 < cLine) (hs : SqT X.K H a ((n :: ns).map V.int)) (q : Q (.int (ns.foldl min n)) H) :
    wpAny (model X.prog X.w) X.A (call (.builtin "min") [.ref a]) (EP X pins σ Q) X.xe s := by
  obtain ⟨its, rv, tl, hz⟩ := I.tuple hs
  obtain ⟨as, rs⟩ := reads_ints (h := s.heap) (ns := n :: ns) rv
  refine min_tuple_data (vs := its.toArray) (x := .int n) (xs := ns.map .int) (I.ok.hd hc) tl (by simpa using rs) (alikeAll_datum (n :: ns)) ?_ fun i v h' tk bs _ r k => ?_
  · have : PyData.depthAll ((n :: ns).map PyData.int) = 0 := by
      have : ∀ ms : List Int, PyData.depthAll (ms.map PyData.int) = 0 := by
        intro ms
        induction ms with
        | nil => rfl
        | cons m ms ih => rw [List.map_cons, PyData.depthAll, ih]; rfl
      exact this _
    rw [List.map_cons] at this
    rw [this]; omega
  · rw [minD_ints] at r
    cases r
    exact ⟨.int _, H, I.kept k, ⟨_, rfl⟩, q⟩
theorem max_tup {pins : List (Addr × Obj)} {σ : L2.St} {H : Hp} {s : Shared} {Q : VK} {a : Addr} {n : Int} {ns : List Int} (I : Inv X pins σ H s) (hc : X.calm = true) (units : X.A.units + 2 < cLine) (hs : SqT X.K H a ((n :: ns).map V.int)) (q : Q (.int (ns.foldl max n)) H) :
    wpAny (model X.prog X.w) X.A (call (.builtin "max") [.ref a]) (EP X pins σ Q) X.xe s := by
  obtain ⟨its, rv, tl, hz⟩ := I.tuple hs
  obtain ⟨as, rs⟩ := reads_ints (h := s.heap) (ns := n :: ns) rv
  refine max_tuple_data (vs := its.toArray) (x := .int n) (xs := ns.map .int) (I.ok.hd hc) tl (by simpa using rs) (alikeAll_datum (n :: ns)) ?_ fun i v h' tk bs _ r k => ?_
  · have : PyData.depthAll ((n :: ns).map PyData.int) = 0 := by
      have : ∀ ms : List Int, PyData.depthAll (ms.map PyData.int) = 0 := by
        intro ms
        induction ms with
        | nil => rfl
        | cons m ms ih => rw [List.map_cons, PyData.depthAll, ih]; rfl
      exact this _
    rw [List.map_cons] at this
    rw [this]; omega
  · rw [maxD_ints] at r
    cases r
    exact ⟨.int _, H, I.kept k, ⟨_, rfl⟩, q⟩
/-- the least, the greatest of a list or a tuple -/
def rBest (K : PySem.W.Frag) (f : Int → Int → Int) : List V → Hp → VK → Prop := fun vs H Q => ∃ (a : Addr) (n : Int) (ns : List Int), vs = [.ref a] ∧ (SqL K H a ((n :: ns).map V.int) ∨ SqT K H a ((n :: ns).map V.int)) ∧ Q (.int (ns.foldl f n)) H
theorem cr_minA (hc : X.calm = true) (units : X.A.units + 2 < cLine) : CallR X (.builtin "min") (rBest X.K min) := by
  intro pins s σ H vs us Q I r h
  obtain ⟨a, n, ns, rfl, hs | hs, q⟩ := h
  · refine cr_min hc pins s σ H _ us Q I r ⟨a, n :: ns, rfl, hs, by simp, fun m hm hall => ?_⟩
    have sp := foldl_min ns n
    rw [show m = ns.foldl min n from Int.le_antisymm (hall _ sp.1) (sp.2 m hm)]
    exact q
  · rw [Vals.ref1 r]
    exact min_tup I hc units hs q
theorem cr_maxA (hc : X.calm = true) (units : X.A.units + 2 < cLine) : CallR X (.builtin "max") (rBest X.K max) := by
  intro pins s σ H vs us Q I r h
  obtain ⟨a, n, ns, rfl, hs | hs, q⟩ := h
  · refine cr_max hc pins s σ H _ us Q I r ⟨a, n :: ns, rfl, hs, by simp, fun m hm hall => ?_⟩
    have sp := foldl_max ns n
    rw [show m = ns.foldl max n from Int.le_antisymm (sp.2 m hm) (hall _ sp.1)]
    exact q
  · rw [Vals.ref1 r]
    exact max_tup I hc units hs q
def fBest (f : Int → Int → Int) : List D → GH → QK → Prop := fun ds g Q => match ds with
  | [d] => seqOf g (.v d) fun xs _ => ∃ (n : Int) (ns : List Int), xs = (n :: ns).map .int ∧ Q (.v (.int (ns.foldl f n))) g
  | _ => False
theorem ok_best {K : PySem.W.Frag} {f : Int → Int → Int} : RNOk K (fBest f) (rBest K f) := fun xs ds B H g Q0 Q r w q c => by
  unfold fBest at q
  split at q
  · match r with
    | .cons r .nil =>
      obtain ⟨ys, ⟨hl, n, ns, rfl, q⟩ | ⟨hl, n, ns, rfl, q⟩⟩ := seqOf.cases q
      · obtain ⟨a, vs, rfl, ha, rv⟩ := lstOf.rep w.rg (r := .v _) r hl
        obtain rfl := reps_intsO rv
        exact ⟨a, n, ns, rfl, .inl (.inl (.inl (of_hide ha).1)), c.here q (.int _) w⟩
      · obtain ⟨a, vs, rfl, ha, rv⟩ := tupOf.rep (r := .v _) r hl
        obtain rfl := reps_intsO rv
        exact ⟨a, n, ns, rfl, .inr (sqT_un ha), c.here q (.int _) w⟩
  · exact q.elim
end
end G3
/-! G3q: dicts that are tracked, keys whole numbers and texts; sorted of a dict; range with a step -/
namespace G3
open PySem PySem.Spec PyProof.Rows L2
def dKey : D → Option Key
  | .int i => some (.inl i)
  | .str x => some (.inr x)
  | _ => none
section
variable {κ : Type} [DecidableEq κ]
def lookD (kvs : List (κ × D)) (k : κ) : Option D := (kvs.find? fun kv => decide (kv.1 = k)).map (·.2)
def putD (kvs : List (κ × D)) (k : κ) (d : D) : List (κ × D) :=
  if (kvs.any fun kv => decide (kv.1 = k)) = true then kvs.map (fun kv => if kv.1 = k then (kv.1, d) else kv) else kvs ++ [(k, d)]
theorem lookD_nil {k : κ} : lookD ([] : List (κ × D)) k = none := rfl
theorem lookD_pos {p : κ × D} {r : List (κ × D)} {k : κ} (e : p.1 = k) : lookD (p :: r) k = some p.2 := by simp [lookD, List.find?_cons, e]
theorem lookD_neg {p : κ × D} {r : List (κ × D)} {k : κ} (e : ¬ p.1 = k) : lookD (p :: r) k = lookD r k := by simp [lookD, List.find?_cons, e]
section
variable {K : PySem.W.Frag} {H : Hp} {g : GH}
theorem DRep.look {r : List (κ × V)} {s : List (κ × D)} (h : DRep K H g r s) (k : κ) : (valV r k = none ∧ lookD s k = none) ∨ ∃ v d, valV r k = some v ∧ lookD s k = some d ∧ Rep K H g v d := by
  induction h with
  | nil => exact .inl ⟨rfl, rfl⟩
  | @cons j v d r s q t ih =>
    by_cases e : j = k
    · exact .inr ⟨v, d, valV_pos (p := (j, v)) e, lookD_pos (p := (j, d)) e, q⟩
    · rw [valV_neg (p := (j, v)) e, lookD_neg (p := (j, d)) e]
      exact ih
theorem DRep.len {r : List (κ × V)} {s : List (κ × D)} (h : DRep K H g r s) : r.length = s.length := by
  induction h with
  | nil => rfl
  | cons _ _ ih => simp [ih]
theorem DRep.keys {r : List (κ × V)} {s : List (κ × D)} (h : DRep K H g r s) : r.map (·.1) = s.map (·.1) := by
  induction h with
  | nil => rfl
  | cons _ _ ih => simp [ih]
theorem DRep.anyk {r : List (κ × V)} {s : List (κ × D)} (h : DRep K H g r s) (k : κ) : (r.any fun kv => decide (kv.1 = k)) = (s.any fun kv => decide (kv.1 = k)) := by
  induction h with
  | nil => rfl
  | cons _ _ ih => simp [ih]
theorem DRep.repl {r : List (κ × V)} {s : List (κ × D)} (h : DRep K H g r s) (k : κ) {v : V} {d : D} (q : Rep K H g v d) : DRep K H g (r.map fun kv => if kv.1 = k then (kv.1, v) else kv) (s.map fun kv => if kv.1 = k then (kv.1, d) else kv) := by
  induction h with
  | nil => exact .nil
  | @cons j w e r s x t ih =>
    by_cases z : j = k
    · simp only [List.map_cons, z, if_true]
      exact .cons q ih
    · simp only [List.map_cons, z, if_false]
      exact .cons x ih
theorem DRep.snoc {r : List (κ × V)} {s : List (κ × D)} (h : DRep K H g r s) (k : κ) {v : V} {d : D} (q : Rep K H g v d) : DRep K H g (r ++ [(k, v)]) (s ++ [(k, d)]) := by
  induction h with
  | nil => exact .cons q .nil
  | cons x t ih => exact .cons x ih
theorem DRep.put {r : List (κ × V)} {s : List (κ × D)} (h : DRep K H g r s) (k : κ) {v : V} {d : D} (q : Rep K H g v d) : DRep K H g (putK r k v) (putD s k d) := by
  unfold putK putD
  rw [h.anyk k]
  split
  · exact h.repl k q
  · exact h.snoc k q
end
end
theorem dKey_rep {K : PySem.W.Frag} {H : Hp} {g : GH} {v : V} {d : D} {k : Key} (r : Rep K H g v d) (h : dKey d = some k) : v = kV k := by
  cases r with
  | int i => cases h; rfl
  | str x => cases h; rfl
  | _ => cases h
theorem trk_dk {K : PySem.W.Frag} {B : List Addr} {H : Hp} {g : GH} {p : Addr} {xs : List (Key × D)} (w : Vw K B H g) (h : g p = some (.dk xs)) : ∃ vs, H p = some (.dK vs) ∧ DRep K (hide H B) g vs xs := by
  obtain ⟨u, hu, r⟩ := w.rg p _ h
  cases r with
  | dK r => exact ⟨_, (of_hide hu).1, r⟩
/-- a new object that is tracked from the start -/
theorem Cont.newO {K : PySem.W.Frag} {B : List Addr} {H : Hp} {g : GH} {Q0 : QK} {Q : VK} {u : HO} {o : DO} {p : Addr} (c : Cont K B H g Q0 Q) (w : Vw K B H g) (hp : H p = none) (r : RepO K (hide H B) g u o) (q : g p = none → Q0 (.v (.ref p)) (gup g p o)) : Q (.ref p) (upd H p u) := by
  obtain ⟨f, w', gp⟩ := Fr.laidV (u := u) hp w
  refine c _ _ _ _ (q gp) (.ref p) ⟨fun b m => w'.dom b m, ?_⟩ (f.track hp) .no
  refine RepG.track (H := hide (upd H p u) B) (H0 := hide H B) (by rw [hide_out (w.new hp)]; exact upd_same) (fun b z h => ?_) w.rg r
  exact ⟨ne_of_none h (w.hn hp), by rw [hide_upd (w.new hp), upd_ne (ne_of_none h (w.hn hp))]; exact h⟩

/-! ### in a dict, of a dict -/
def rDIn (neg : Bool) : R2 := fun y x H Q => ∃ a o, x = .ref a ∧ DGet H a y o ∧ Q (.bl (neg ^^ o.isSome)) H
theorem op_dIn {X : Cx} (hu : X.A.units + 1 < cLine) : OpR X (compareOp .In) (rDIn false) := fun pins s σ H x y v u Q I rx ry ⟨a, o, e, g, q⟩ => by
  subst e
  obtain rfl : u = Value.ref a := ry
  exact d_in hu I g rx fun s' I' => ⟨.bl o.isSome, H, I', rfl, by rw [Bool.false_xor] at q; exact q⟩
theorem op_dNin {X : Cx} (hu : X.A.units + 1 < cLine) : OpR X (compareOp .NotIn) (rDIn true) := fun pins s σ H x y v u Q I rx ry ⟨a, o, e, g, q⟩ => by
  subst e
  obtain rfl : u = Value.ref a := ry
  exact d_notIn hu I g rx fun s' I' => ⟨.bl (!o.isSome), H, I', rfl, by rw [Bool.true_xor] at q; exact q⟩
/-- a tuple of whole numbers, as a key -/
def tK (k : List Int) : List Key := k.map Sum.inl
theorem tKey_rep {K : PySem.W.Frag} {H : Hp} {g : GH} {v : V} {k : List Int} (r : Rep K H g v (.tup (k.map .int))) : ∃ b, v = .ref b ∧ H b = some (.tup ((tK k).map kV)) := by
  cases r with
  | tup h q =>
    refine ⟨_, rfl, ?_⟩
    rw [reps_intsO q] at h
    rw [h]
    unfold tK
    rw [List.map_map]
    rfl
theorem trk_dt {K : PySem.W.Frag} {B : List Addr} {H : Hp} {g : GH} {p : Addr} {xs : List (List Key × D)} (w : Vw K B H g) (h : g p = some (.dt xs)) : ∃ vs, H p = some (.dT vs) ∧ DRep K (hide H B) g vs xs := by
  obtain ⟨u, hu, r⟩ := w.rg p _ h
  cases r with
  | dT r => exact ⟨_, (of_hide hu).1, r⟩
def fDIn (neg : Bool) : R → R → GH → QK → Prop := fun x y g Q => match y with
  | .v (.ref a) => (∃ kvs k, g a = some (.dk kvs) ∧ dKey x.fz = some k ∧ Q (.v (.bl (neg ^^ (lookD kvs k).isSome))) g) ∨ ∃ kvs k, g a = some (.dt kvs) ∧ x.fz = .tup (k.map .int) ∧ Q (.v (.bl (neg ^^ (lookD kvs (tK k)).isSome))) g
  | _ => False
theorem ok_dIn {K : PySem.W.Frag} {neg : Bool} : R2Ok K (fDIn neg) (rDIn neg) := fun x y d e B H g Q0 Q rx ry w q c => by
  unfold fDIn at q
  split at q
  · rename_i a
    cases ry
    rcases q with ⟨kvs, k, hg, hk, q⟩ | ⟨kvs, k, hg, hk, q⟩
    · obtain ⟨vs, hp, r⟩ := trk_dk w hg
      obtain rfl := dKey_rep rx hk
      refine ⟨a, _, rfl, .k hp, ?_⟩
      rcases r.look k with ⟨e1, e2⟩ | ⟨v, d', e1, e2, _⟩
      · rw [e1]; rw [e2] at q; exact c.here q (.bl _) w
      · rw [e1]; rw [e2] at q; exact c.here q (.bl _) w
    · obtain ⟨vs, hp, r⟩ := trk_dt w hg
      rw [hk] at rx
      obtain ⟨b, rfl, hb⟩ := tKey_rep rx
      refine ⟨a, _, rfl, .t hp (of_hide hb).1, ?_⟩
      rcases r.look (tK k) with ⟨e1, e2⟩ | ⟨v, d', e1, e2, _⟩
      · rw [e1]; rw [e2] at q; exact c.here q (.bl _) w
      · rw [e1]; rw [e2] at q; exact c.here q (.bl _) w
  · exact q.elim
def rDIx : R2 := fun x y H Q => ∃ a v, x = .ref a ∧ DGet H a y (some v) ∧ Q v H
theorem ix_dict {X : Cx} (hu : X.A.units + 1 < cLine) : IxR X rDIx := fun a b pins s σ H x y v u Q I rx ry ⟨p, z, e, g, q⟩ es => by
  subst e
  obtain rfl : v = Value.ref p := rx
  have hT := dict_typeIs I g
  unfold subscriptTail
  refine wpAny_bind ?_
  rw [getitemInPython_of_ne hT.not_modules]
  refine wpAny_bind (wpAny_specialOf hT PySem.F.slot_dict_getitem.lookup ?_)
  have fin : wpAny (model X.prog X.w) X.A (subscripted b false (Value.ref p) u) (fun r s₃ => wpAny (model X.prog X.w) X.A (letTemporaryGo a (Value.ref p) r >>= fun _ => pure r) (EP X pins σ Q) X.xe s₃) X.xe s := by
    rw [es]
    exact wpAny_operating (d_getItem hu I g ry fun w' s3 I3 rw' => wpAny_bind (wpAny_letTemporaryGo (wpAny_pure ⟨z, H, I3, rw', q⟩)))
  first
    | exact wpAny_pure (wpAny_bind fin)
    | exact wpAny_bind (wpAny_pure (wpAny_bind fin))
    | exact wpAny_bind fin
def fDIx : R → R → GH → QK → Prop := fun x y g Q => match x with
  | .v (.ref a) => (∃ kvs k d, g a = some (.dk kvs) ∧ dKey y.fz = some k ∧ lookD kvs k = some d ∧ Q (.v d) g) ∨ ∃ kvs k d, g a = some (.dt kvs) ∧ y.fz = .tup (k.map .int) ∧ lookD kvs (tK k) = some d ∧ Q (.v d) g
  | _ => False
theorem ok_dIx {K : PySem.W.Frag} : R2Ok K fDIx rDIx := fun x y d e B H g Q0 Q rx ry w q c => by
  unfold fDIx at q
  split at q
  · rename_i a
    cases rx
    rcases q with ⟨kvs, k, z, hg, hk, hl, q⟩ | ⟨kvs, k, z, hg, hk, hl, q⟩
    · obtain ⟨vs, hp, r⟩ := trk_dk w hg
      obtain rfl := dKey_rep ry hk
      rcases r.look k with ⟨e1, e2⟩ | ⟨v, d', e1, e2, r'⟩
      · rw [hl] at e2; cases e2
      · rw [hl] at e2; cases e2
        exact ⟨a, v, rfl, e1 ▸ .k hp, c.here q r' w⟩
    · obtain ⟨vs, hp, r⟩ := trk_dt w hg
      rw [hk] at ry
      obtain ⟨b, rfl, hb⟩ := tKey_rep ry
      rcases r.look (tK k) with ⟨e1, e2⟩ | ⟨v, d', e1, e2, r'⟩
      · rw [hl] at e2; cases e2
      · rw [hl] at e2; cases e2
        exact ⟨a, v, rfl, e1 ▸ .t hp (of_hide hb).1, c.here q r' w⟩
  · exact q.elim

/-! ### keys that are tuples of whole numbers and texts -/
def keyD : Key → D
  | .inl i => .int i
  | .inr x => .str x
theorem reps_keys {K : PySem.W.Frag} {H : Hp} {g : GH} : ∀ {ks : List Key} {vs : List V}, Reps K H g vs (ks.map keyD) → vs = ks.map kV
  | [], _, .nil => rfl
  | .inl i :: ks, _, .cons r t => by
    have r' : Rep K H g _ (.int i) := r
    rw [reps_keys t]
    cases r'; rfl
  | .inr i :: ks, _, .cons r t => by
    have r' : Rep K H g _ (.str i) := r
    rw [reps_keys t]
    cases r'; rfl
theorem mKey_rep {K : PySem.W.Frag} {H : Hp} {g : GH} {v : V} {k : List Key} (r : Rep K H g v (.tup (k.map keyD))) : ∃ b, v = .ref b ∧ H b = some (.tup (k.map kV)) := by
  cases r with
  | tup h q =>
    rw [reps_keys q] at h
    exact ⟨_, rfl, h⟩
def fDInM (neg : Bool) : R → R → GH → QK → Prop := fun x y g Q => match y with
  | .v (.ref a) => ∃ kvs k, g a = some (.dt kvs) ∧ x.fz = .tup (k.map keyD) ∧ Q (.v (.bl (neg ^^ (lookD kvs k).isSome))) g
  | _ => False
theorem ok_dInM {K : PySem.W.Frag} {neg : Bool} : R2Ok K (fDInM neg) (rDIn neg) := fun x y d e B H g Q0 Q rx ry w q c => by
  unfold fDInM at q
  split at q
  · rename_i a
    cases ry
    obtain ⟨kvs, k, hg, hk, q⟩ := q
    obtain ⟨vs, hp, r⟩ := trk_dt w hg
    rw [hk] at rx
    obtain ⟨b, rfl, hb⟩ := mKey_rep rx
    refine ⟨a, _, rfl, .t hp (of_hide hb).1, ?_⟩
    rcases r.look k with ⟨e1, e2⟩ | ⟨v, d', e1, e2, _⟩
    · rw [e1]; rw [e2] at q; exact c.here q (.bl _) w
    · rw [e1]; rw [e2] at q; exact c.here q (.bl _) w
  · exact q.elim
def fDIxM : R → R → GH → QK → Prop := fun x y g Q => match x with
  | .v (.ref a) => ∃ kvs k d, g a = some (.dt kvs) ∧ y.fz = .tup (k.map keyD) ∧ lookD kvs k = some d ∧ Q (.v d) g
  | _ => False
theorem ok_dIxM {K : PySem.W.Frag} : R2Ok K fDIxM rDIx := fun x y d e B H g Q0 Q rx ry w q c => by
  unfold fDIxM at q
  split at q
  · rename_i a
    cases rx
    obtain ⟨kvs, k, z, hg, hk, hl, q⟩ := q
    obtain ⟨vs, hp, r⟩ := trk_dt w hg
    rw [hk] at ry
    obtain ⟨b, rfl, hb⟩ := mKey_rep ry
    rcases r.look k with ⟨e1, e2⟩ | ⟨v, d', e1, e2, r'⟩
    · rw [hl] at e2; cases e2
    · rw [hl] at e2; cases e2
      exact ⟨a, v, rfl, e1 ▸ .t hp (of_hide hb).1, c.here q r' w⟩
  · exact q.elim

/-! ### sorted(d): any number of keys -/
def rSortD : List V → Hp → VK → Prop := fun xs H Q => ∃ (a : Addr) (kvs : List (Key × V)) (ks : List Int), xs = [.ref a] ∧ Rd H a (.dK kvs) ∧ kvs.map (·.1) = ks.map Sum.inl ∧
  ∀ (ys : List Int) (p : Addr), ys.Perm ks → ys.Pairwise (· ≤ ·) → H p = none → Q (.ref p) (upd H p (.lst (ys.map V.int)))
theorem cr_sortD {X : Cx} (hcalm : X.calm = true) : CallR X (.builtin "sorted") rSortD := by
  intro pins s σ H xs us Q I r q
  obtain ⟨a, kvs, ks, ex, hd, hks, q⟩ := q
  subst ex
  obtain ⟨u, eu, rx⟩ := vals1 r
  subst eu
  cases rx
  obtain ⟨z, lo, vs, rel, dd⟩ := dk_rd I.hok hd
  obtain ⟨ep, hat⟩ := dd.dictAt
  have hkeys : vs.map (·.1) = ks.map Sum.inl := rel.keys.symm.trans hks
  have hl : vs.length = ks.length := by
    have e := congrArg List.length hkeys
    rw [List.length_map, List.length_map] at e
    exact e
  have hz : ks.length ≤ sizeLine := by rw [← hl, ← rel.length]; exact z
  have h16 : vs.length ≤ sizeLine := by rw [hl]; exact hz
  refine Calls.call_function_entry PyProof.Rows.kind_sorted PyProof.Rows.plain_sorted PyProof.Rows.entry_sorted (PyProof.Rows.args_sorted1 _) ?_
  unfold Builtin.«sorted»
  refine wpAny_bind (m := checkCount "sorted" 1 1 _) (wpAny_pure ?_)
  refine wpAny_bind (PySem.W.kdu_collect (A := X.A.in1) (PySem.W.kdl_dict (knd := mixKind X.prog X.w) (kvs := vs) (ep := ep) lo) (I.ok.hd hcalm) hat h16 fun h' tk acc hk hacc => ?_)
  have hal : acc.toList.length = ks.length := by rw [Array.length_toList, hacc.1, hl]
  have hS : IntsAre acc.toList ks := ints_each hal fun j v e => by
    obtain ⟨k, x, e1, e2⟩ := hacc.2 j v (by rw [← Array.getElem?_toList]; exact e)
    have e3 : (vs.map (·.1))[j]? = some k := by rw [List.getElem?_map, e1]; rfl
    rw [hkeys, List.getElem?_map] at e3
    cases e4 : ks[j]? with
    | none => rw [e4] at e3; cases e3
    | some y =>
      rw [e4] at e3
      have e5 : Sum.inl y = k := Option.some.inj e3
      subst e5
      rcases keyIs_shape (show keyIs (Sum.inl y) v = true from e2) with ⟨i, t, ek, ev⟩ | ⟨z, t, ek, ev⟩
      · cases ek
        exact ⟨y, t, rfl, ev⟩
      · cases ek
  have I1 : Inv X pins σ H { s with heap := h', toks := tk } := I.kept hk
  refine wpAny_bind (wpAny_newList ?_ (by rw [hal]; exact hz))
  have hoL : (h'.push (seqObj "list" acc.toList.toArray 0)).get? h'.objs.size = some (seqObj "list" acc.toList.toArray 0) := Heap.get?_push_size _ rfl
  show wpAny _ _ _ _ _ { s with heap := h'.push (seqObj "list" acc.toList.toArray 0), toks := tk }
  refine wpAny_bind (wpAny_holding (wpAny_call_entry PyProof.Rows.slot_list_sort ⟨_, hoL, rfl⟩ PyProof.Rows.entry_list_sort
    (PyProof.Rows.list_sort_treeAny (s := { s with heap := h'.push (seqObj "list" acc.toList.toArray 0), toks := tk }) hoL hS (by rw [hal]; exact hz) fun out ys g1 g2 g3 => ⟨_, rfl, ?_⟩) (PyProof.Rows.args_list_sort _)))
  obtain ⟨e', he'⟩ := PyProof.Rows.sortedHeap_at (vs := acc.toList) (out := out) hoL
  have hlen : (ys.map V.int).length ≤ sizeLine := by
    rw [List.length_map, g2.length_eq]
    exact hz
  refine wpAny_pure ⟨_, rfl, .ref h'.objs.size, upd H h'.objs.size (.lst (ys.map V.int)), I1.laid (t' := tk) (fun b u e => ?_) (Nat.le_refl _)
    (show ObjOk X.prog X.w _ _ _ (.lst (ys.map V.int)) from ⟨hlen, out.toList, e', vals_of_ints g1, by rw [Array.toArray_toList]; exact he'⟩), rfl, q ys _ g2 g3 (I1.hok.fresh (Nat.le_refl _))⟩
  have hb : b < h'.objs.size := Heap.lt_size e
  rw [PyProof.Rows.sortedHeap_old (Nat.ne_of_lt hb) (by rw [size_push']; exact Nat.lt_succ_of_lt hb)]
  exact Heap.get?_push_of_some _ e

/-! ### range with a step -1 -/
/-- i, i - 1, .. down to above j -/
def downD (i : Int) (n : Nat) : List D := (List.range n).map fun (m : Nat) => D.int (i - m)
theorem itDown {K : PySem.W.Frag} {B : List Addr} {H0 : Hp} {g0 : GH} {i : Int} {n : Nat} : ItOk K B H0 g0 (Itc i (-1) n) (downD i n) fun _ => True := fun B' m H g _ _ rg f _ => by
  refine ⟨fun d hd => ?_, fun hi => by unfold downD at hi; rw [List.length_map, List.length_range] at hi; exact Nat.le_of_eq hi.symm⟩
  unfold downD at hd
  rw [List.getElem?_map] at hd
  by_cases hi : m < n
  · rw [List.getElem?_range hi] at hd
    cases hd
    exact ⟨hi, fun x H' hy => by
      obtain ⟨rfl, rfl⟩ := hy
      rw [show i + (m : Nat) * (-1 : Int) = i - (m : Nat) by omega]
      exact ⟨.int _, rg, Fr.refl _ _⟩⟩
  · rw [List.getElem?_eq_none (by rw [List.length_range]; omega)] at hd
    cases hd
def wRngD (tr : TAD) : TID := fun ρ g Q W => tr ρ g (fun ds g1 => match ds with | [.int i, .int j, .int k] => k = -1 ∧ (-(2 ^ 62) ≤ i ∧ i < 2 ^ 62 ∧ -(2 ^ 62) ≤ j ∧ j < 2 ^ 62) ∧ Q (downD i (i - j).toNat) (fun _ => True) g1 | _ => False) W
section
variable {X : Cx} {e tg : Expr} {tr : TAD} {E : L2.St → XK}
theorem q_rngD (h : PI X tg e (iRng3 (LA X.K E tr))) : PI X tg e (LI X.K E (wRngD tr)) :=
  PI.of h fun σ H R ⟨B, ρ, g, Q0, W0, rs, rg, t, c, xc⟩ =>
    ⟨B, ρ, g, _, W0, rs, rg, t, fun ds g1 vs H1 hq rd w1 f1 => by
      dsimp only at hq
      split at hq
      · obtain ⟨rfl, ⟨h1, h2, h3, h4⟩, hq⟩ := hq
        cases rd with
        | cons r1 r2 =>
          cases r2 with
          | cons r2 r3 =>
            cases r3 with
            | cons r3 r4 =>
              cases r4
              exact ⟨_, _, _, _, by rw [int_of r1, int_of r2, int_of r3], RgC.neg h1 h2 h3 h4, c _ _ g1 _ H1 hq itDown w1 f1⟩
      · exact hq.elim, xc⟩
end
/-! ### dict of pairs -/
def dictS (ns : List Int) : List (Key × D) := ns.foldl (fun acc n => putD acc (Sum.inl n) (.bl true)) []
theorem pairs_ref {K : PySem.W.Frag} {B : List Addr} {H : Hp} {g : GH} : ∀ {ns : List Int} {vs : List V}, Reps K (hide H B) g vs (ns.map fun n => .tup [.int n, .bl true]) → ∃ ps : List Addr, vs = ps.map V.ref ∧ Paired (fun p kv => SqT K H p [kV kv.1, kv.2]) ps (ns.map fun n => ((Sum.inl n : Key), V.bl true))
  | [], _, .nil => ⟨[], rfl, .nil⟩
  | n :: ns, _, .cons r t => by
    obtain ⟨ps, rfl, q⟩ := pairs_ref t
    cases r with
    | @tup a us _ h r =>
      match r with
      | .cons r1 (.cons r2 .nil) =>
        cases r1; cases r2
        exact ⟨a :: ps, rfl, .cons (.inl (.inl (of_hide h).1)) q⟩
theorem merge_rep {K : PySem.W.Frag} {H : Hp} {g : GH} : ∀ (ns : List Int) {r : List (Key × V)} {s : List (Key × D)}, DRep K H g r s → DRep K H g (mergeK r (ns.map fun n => ((Sum.inl n : Key), V.bl true))) (ns.foldl (fun acc n => putD acc (Sum.inl n) (.bl true)) s)
  | [], _, _, h => h
  | n :: ns, _, _, h => merge_rep ns (h.put (Sum.inl n) (.bl true))
end G3
/-! G3w0: sorted(x), x a list of tuples of whole numbers, or a dict by such tuples -/
namespace G3
open PySem PySem.Spec PyProof.Rows L2
/-- the order of tuples of whole numbers -/
def lexL : List Int → List Int → Bool
  | [], [] => false
  | [], _ :: _ => true
  | _ :: _, [] => false
  | x :: xs, y :: ys => if x = y then lexL xs ys else decide (x < y)
theorem lexL_asym : ∀ x y : List Int, lexL x y = true → lexL y x = false
  | [], [], h => by cases h
  | [], _ :: _, _ => rfl
  | _ :: _, [], h => by cases h
  | x :: xs, y :: ys, h => by
    unfold lexL at h ⊢
    by_cases e : x = y
    · rw [if_pos e] at h; rw [if_pos e.symm]; exact lexL_asym xs ys h
    · rw [if_neg e] at h; rw [if_neg (fun z => e z.symm)]
      have := of_decide_eq_true h
      exact decide_eq_false (by omega)
theorem lexL_tr : ∀ x y z : List Int, lexL y x = false → lexL z y = false → lexL z x = false
  | [], y, z, h1, h2 => by
    cases z with
    | nil => rfl
    | cons _ _ => rfl
  | x :: xs, [], z, h1, h2 => by cases h1
  | x :: xs, y :: ys, [], h1, h2 => by cases h2
  | x :: xs, y :: ys, z :: zs, h1, h2 => by
    unfold lexL at h1 h2 ⊢
    by_cases e1 : y = x
    · subst e1
      rw [if_pos rfl] at h1
      by_cases e2 : z = y
      · subst e2
        rw [if_pos rfl] at h2 ⊢
        exact lexL_tr xs ys zs h1 h2
      · rw [if_neg e2] at h2 ⊢
        exact h2
    · rw [if_neg e1] at h1
      have a := of_decide_eq_false h1
      by_cases e2 : z = y
      · subst e2
        rw [if_neg e1]
        exact h1
      · rw [if_neg e2] at h2
        have b := of_decide_eq_false h2
        rw [if_neg (by omega)]
        exact decide_eq_false (by omega)
theorem lexL_eq : ∀ {x y : List Int}, lexL x y = false → lexL y x = false → x = y
  | [], [], _, _ => rfl
  | [], _ :: _, h, _ => by cases h
  | _ :: _, [], _, h => by cases h
  | x :: xs, y :: ys, h1, h2 => by
    unfold lexL at h1 h2
    by_cases e : x = y
    · subst e
      rw [if_pos rfl] at h1 h2
      rw [lexL_eq h1 h2]
    · rw [if_neg e] at h1
      rw [if_neg (fun z => e z.symm)] at h2
      have a := of_decide_eq_false h1
      have b := of_decide_eq_false h2
      omega
theorem swo_lexL {α : Type} (k : α → List Int) : SrtO.Swo fun v u => lexL (k v) (k u) := ⟨fun x y => lexL_asym _ _, fun x y z => lexL_tr _ _ _⟩
/-- a tuple of whole numbers -/
def IntTup (h : Heap) (v : Value) (ns : List Int) : Prop := ∃ (a : Addr) (o : Obj) (us : List Value) (n : Nat), v = .ref a ∧ h.get? a = some o ∧ o.cls = .type "tuple" ∧ o.data = .seq us.toArray n ∧ IntsAre us ns
theorem IntTup.keeps {h h' : Heap} {v : Value} {ns : List Int} (x : IntTup h v ns) (k : ∀ b o, h.get? b = some o → o.cls = .type "tuple" → h'.get? b = some o) : IntTup h' v ns :=
  let ⟨a, o, us, n, e, ho, hc, hd, hi⟩ := x
  ⟨a, o, us, n, e, k a o ho hc, hc, hd, hi⟩
section
variable {prog : Program} {w : World} {A : Around} {E : Value → Shared → Prop} {s : Shared}
theorem kat_ints {fin : Bool} {R : Bool → Shared → Prop} : ∀ {us vs : List Value} {xs ys : List Int} (i : Nat), IntsAre us xs → IntsAre vs ys → fin = decide (us.length < vs.length) → R (lexL xs ys) s → PySem.W.KatLex prog w A true fin R (us.zip vs) i s
  | [], [], _, _, i, .nil, .nil, hf, h => by
    subst hf
    exact PySem.W.kat_nil h
  | [], _ :: _, _, _, i, .nil, .cons _ _ _, hf, h => by
    subst hf
    refine PySem.W.kat_nil ?_
    rw [decide_eq_true (by simp)]; exact h
  | _ :: _, [], _, _, i, .cons _ _ _, .nil, hf, h => by
    subst hf
    refine PySem.W.kat_nil ?_
    rw [decide_eq_false (by simp)]; exact h
  | _ :: us, _ :: vs, _, _, i, .cons x t r1, .cons y u r2, hf, h => by
    refine PySem.W.kat_cons (SeqAt.EqAt.int_int x t y u prog w _ _ ?_)
    refine PySem.W.kat_go (fun e1 => ?_) (fun e1 => ?_)
    · have ex : x = y := by simpa using e1
      refine PySem.W.kat_yes (kat_ints (i + 1) r1 r2 (by rw [hf]; simp) ?_)
      unfold lexL at h
      rw [if_pos ex] at h
      exact h
    · have ex : ¬ x = y := by simpa using e1
      unfold lexL at h
      rw [if_neg ex] at h
      cases i with
      | zero => exact PySem.W.kat_no (PyProof.Rows.oneLt_int h)
      | succ i => exact PySem.W.kat_no (PySem.W.kat_one _ _ (PyProof.Rows.lt_int h))
theorem tup_cmp {vs : List Value} {k : Value → List Int} (hp : ∀ v ∈ vs, IntTup s.heap v (k v)) : SrtO.Cmp prog w A s (tuples' true) (fun p => p.1 ∈ vs) (SrtO.lt2 fun v u => lexL (k v) (k u)) := by
  intro p q hm hm'
  obtain ⟨a, o, us, n, e, ho, hc, hd, hi⟩ := hp _ hm
  obtain ⟨a', o', us', n', e', ho', hc', hd', hi'⟩ := hp _ hm'
  show wpAny (model prog w) A (keyLt' (tuples' true) p.1 q.1) (fun r s' => s' = s ∧ r = lexL (k p.1) (k q.1)) (fun _ _ => False) s
  generalize k p.1 = xs at hi ⊢
  generalize k q.1 = ys at hi' ⊢
  rw [e, e']
  refine PySem.W.kat_lt ho hd ho' hd' ?_
  exact kat_ints 0 hi hi' (by simp) ⟨rfl, rfl⟩
theorem firsts_tup {h : Heap} {k : Value → List Int} : ∀ {vs : List Value}, (∀ v ∈ vs, IntTup h v (k v) ∧ k v ≠ []) → ∃ fs : List Value, PySem.W.KatTups h vs fs ∧ fs.length = vs.length ∧ ∀ f ∈ fs, ∃ x t, f = .int x t
  | [], _ => ⟨[], PySem.W.KatTups.nil, rfl, fun f hf => nomatch hf⟩
  | v :: vs, hv => by
    obtain ⟨fs, h1, h2, h3⟩ := firsts_tup (h := h) (k := k) (vs := vs) fun u hu => hv u (List.mem_cons_of_mem _ hu)
    obtain ⟨⟨a, o, us, n, e, ho, hc, hd, hi⟩, hne⟩ := hv v List.mem_cons_self
    generalize k v = ns at hi hne
    cases hi with
    | nil => exact absurd rfl hne
    | @cons x t us' ns' r =>
      rw [e]
      refine ⟨.int x t :: fs, PySem.W.KatTups.cons ho hc hd (by simp) h1, by simp [h2], fun f hf => ?_⟩
      rcases List.mem_cons.mp hf with rfl | hf
      · exact ⟨_, _, rfl⟩
      · exact h3 f hf
theorem tup_sortable {a : Addr} {vs : List Value} {k : Value → List Int} (h0 : 0 < vs.length) (hp : ∀ v ∈ vs, IntTup s.heap v (k v) ∧ k v ≠ []) (ha : ∀ o, s.heap.get? a = some o → o.cls ≠ .type "tuple") : SrtO.SortableO prog w A s a vs fun v u => lexL (k v) (k u) := by
  intro h' keep
  have hp' : ∀ v ∈ vs, IntTup h' v (k v) ∧ k v ≠ [] := fun v hm => ⟨(hp v hm).1.keeps fun b o e c => keep b o (fun z => by subst z; exact ha o e c) e, (hp v hm).2⟩
  obtain ⟨fs, h1, h2, h3⟩ := firsts_tup hp'
  refine ⟨tuples' true, fun Q E hq => ?_, tup_cmp fun v hm => (hp' v hm).1⟩
  refine PySem.W.kat_kind (T := .type "int") h1 (by omega) (fun f hm => ?_) (by rfl) ?_
  · obtain ⟨x, t, rfl⟩ := h3 f hm
    exact PySem.W.Looks.now
  · have e : (Value.type "int" != Value.type "tuple") = true := by first | decide +kernel | rfl | decide
    rw [e]
    exact hq
end
/-- sorted(x), x a list of tuples of whole numbers, none of them empty where there are two and more -/
def rSortTL (K : PySem.W.Frag) : List V → Hp → VK → Prop := fun xs H Q => ∃ (a : Addr) (bs : List Addr) (kf : Addr → List Int), xs = [.ref a] ∧ SqL K H a (bs.map V.ref) ∧ (∀ b ∈ bs, SqT K H b ((kf b).map V.int)) ∧ (2 ≤ bs.length → ∀ b ∈ bs, kf b ≠ []) ∧
  ∀ (cs : List Addr) (p : Addr), cs.Perm bs → cs.Pairwise (fun a b => lexL (kf b) (kf a) = false) → H p = none → Q (.ref p) (upd H p (.lst (cs.map V.ref)))
theorem refs_of : ∀ {bs : List Addr} {us : List Value}, Vals (bs.map V.ref) us → us = bs.map Value.ref
  | [], _, .nil => rfl
  | b :: bs, _, .cons h t => by
    have e : _ = Value.ref b := h
    rw [e, refs_of t]; rfl
def adOf : Value → Addr
  | .ref a => a
  | _ => 0
theorem intTup_of {X : Cx} {pins : List (Addr × Obj)} {σ : L2.St} {H : Hp} {s : Shared} (I : L2.Inv X pins σ H s) {b : Addr} {ns : List Int} (h : SqT X.K H b (ns.map V.int)) : IntTup s.heap (.ref b) ns := by
  obtain ⟨its, rv, ⟨o, ho, hc, n, hd⟩, hz⟩ := I.tuple h
  exact ⟨b, o, its, n, rfl, ho, hc, hd, rv.ints⟩
theorem perm_refs {bs : List Addr} {out : List Value} (h : out.Perm (bs.map Value.ref)) : ∃ cs : List Addr, out = cs.map Value.ref ∧ cs.Perm bs := by
  refine ⟨out.map adOf, ?_, ?_⟩
  · rw [List.map_map]
    have : ∀ v ∈ out, (Value.ref ∘ adOf) v = v := fun v hv => by
      obtain ⟨b, -, rfl⟩ := List.mem_map.mp (h.mem_iff.mp hv)
      rfl
    rw [List.map_congr_left this, List.map_id']
  · have := h.map adOf
    rw [List.map_map] at this
    have e : bs.map (adOf ∘ Value.ref) = bs := by
      rw [show (adOf ∘ Value.ref) = (id : Addr → Addr) from rfl, List.map_id]
    rw [e] at this
    exact this
theorem vals_refsG : ∀ cs : List Addr, Vals (cs.map V.ref) (cs.map Value.ref)
  | [] => .nil
  | _ :: r => .cons rfl (vals_refsG r)
theorem cr_sortTL {X : Cx} : CallR X (.builtin "sorted") (rSortTL X.K) := by
  intro pins s σ H vs us Q I r h
  obtain ⟨a, bs, kf, rfl, hs, hk, hne, q⟩ := h
  obtain ⟨its, rv, hl, hz⟩ := I.list hs
  rw [Vals.ref1 r]
  obtain rfl := refs_of rv
  rw [List.length_map] at hz
  have hI : ∀ v ∈ bs.map Value.ref, IntTup s.heap v (kf (adOf v)) := fun v hv => by
    obtain ⟨b, hb, rfl⟩ := List.mem_map.mp hv
    exact intTup_of I (hk b hb)
  refine SrtO.sorted_ord (swo_lexL fun v => kf (adOf v)) hl.isList (by rw [List.length_map]; exact hz) (fun h2 h₁ a' ha kk => ?_) fun out h1 h2 => ?_
  · rw [List.length_map] at h2
    refine tup_sortable (by rw [List.length_map]; omega) (fun v hv => ⟨(hI v hv).keeps fun b o e _ => (kk b o e).2, ?_⟩) fun o e => ?_
    · obtain ⟨b, hb, rfl⟩ := List.mem_map.mp hv
      exact hne h2 b hb
    · have e' : some o = some (seqObj "list" (bs.map Value.ref).toArray 0) := e.symm.trans ha
      cases e'
      intro c
      exact absurd (Value.type.inj c) (by decide)
  obtain ⟨cs, rfl, pm⟩ := perm_refs h2.perm
  obtain ⟨ep, he'⟩ := PyProof.Rows.sortedAll_at s.heap (bs.map Value.ref) (cs.map Value.ref).toArray
  have hlen : (cs.map V.ref).length ≤ sizeLine := by rw [List.length_map, pm.length_eq]; exact hz
  have hsr : cs.Pairwise (fun a b => lexL (kf b) (kf a) = false) := List.pairwise_map.mp h1
  exact ⟨.ref _, upd H (s.heap.objs.size + 1) (.lst (cs.map V.ref)), I.laid (t' := s.toks) (fun _ _ => PyProof.Rows.sortedAll_old) (Nat.le_succ _) ⟨hlen, cs.map Value.ref, ep, vals_refsG cs, he'⟩, rfl, q cs _ pm hsr (I.hok.fresh (Nat.le_succ _))⟩
/-- the whole numbers of a tuple that stands at an address -/
def intV : V → Option Int
  | .int i => some i
  | _ => none
def kfH (H : Hp) (b : Addr) : List Int := match H b with
  | some (.tup vs) => vs.filterMap intV
  | _ => []
theorem kfH_tup {H : Hp} {b : Addr} {t : List Int} (h : H b = some (.tup (t.map V.int))) : kfH H b = t := by
  unfold kfH
  rw [h]
  dsimp only
  rw [List.filterMap_map, show (intV ∘ V.int) = (some : Int → Option Int) from rfl, List.filterMap_some]
/-- sorted(d), d a dict by tuples of whole numbers -/
def rSortTD : List V → Hp → VK → Prop := fun xs H Q => ∃ (a : Addr) (kvs : List (List Key × V)) (ts : List (List Int)), xs = [.ref a] ∧ Rd H a (.dT kvs) ∧ kvs.map (·.1) = ts.map tK ∧ (2 ≤ ts.length → ∀ t ∈ ts, t ≠ []) ∧
  ∀ (bs cs : List Addr) (p : Addr), bs.map (kfH H) = ts → (∀ b ∈ bs, H b = some (.tup ((kfH H b).map V.int))) → cs.Perm bs → cs.Pairwise (fun a b => lexL (kfH H b) (kfH H a) = false) → H p = none → Q (.ref p) (upd H p (.lst (cs.map V.ref)))
theorem keys_refs {H : Hp} : ∀ {kvs : List (List Key × V)} {ks : List (List Key × Addr × Value)} {ts : List (List Int)}, KT H kvs ks → kvs.map (·.1) = ts.map tK → (ks.map fun x => x.2.1).map (kfH H) = ts ∧ ∀ b ∈ ks.map (fun x => x.2.1), H b = some (.tup ((kfH H b).map V.int))
  | _, _, [], .nil, _ => ⟨rfl, fun b hb => nomatch hb⟩
  | _, _, _ :: _, .nil, h => by cases h
  | _, _, [], .cons _ _, h => by cases h
  | _, _, t :: ts, .cons (a := p) (b := x) hq r, h => by
    rw [List.map_cons, List.map_cons] at h
    injection h with h1 h2
    obtain ⟨e1, e2, -⟩ := hq
    have hb : H x.2.1 = some (.tup (t.map V.int)) := by
      rw [h1] at e2
      unfold tK at e2
      rw [List.map_map] at e2
      exact e2
    have hk := kfH_tup hb
    obtain ⟨i1, i2⟩ := keys_refs r h2
    refine ⟨by rw [List.map_cons, List.map_cons, hk, i1], fun b hb' => ?_⟩
    rw [List.map_cons] at hb'
    rcases List.mem_cons.mp hb' with rfl | hb'
    · rw [hk]; exact hb
    · exact i2 b hb'
theorem cr_sortTD {X : Cx} (hcalm : X.calm = true) : CallR X (.builtin "sorted") rSortTD := by
  intro pins s σ H xs us Q I r q
  obtain ⟨a, kvs, ts, rfl, hd, hks, hne, q⟩ := q
  rw [Vals.ref1 r]
  obtain ⟨z, hs, ks, pr, o, es, ep, ho, hx, hdt, he, hn⟩ := (show ObjOk X.prog X.w H s.heap a (.dT kvs) from hd.ok I.hok)
  have l1 : es.size = ks.length := size_of_entries he
  have l2 : kvs.length = ks.length := Paired.length pr
  obtain ⟨k1, k2⟩ := keys_refs pr hks
  generalize hbs : ks.map (fun x => x.2.1) = bs at k1 k2
  have lb : bs.length = ks.length := by rw [← hbs, List.length_map]
  have lt : ts.length = bs.length := by rw [← k1, List.length_map]
  refine Calls.call_function_entry PyProof.Rows.kind_sorted PyProof.Rows.plain_sorted PyProof.Rows.entry_sorted (PyProof.Rows.args_sorted1 _) ?_
  unfold Builtin.«sorted»
  refine wpAny_bind (m := checkCount "sorted" 1 1 _) (wpAny_pure ?_)
  refine wpAny_bind (PySem.W.kdu_collect (A := X.A.in1) (kdl_raw hs hx hdt) (I.ok.hd hcalm) ho (by omega) fun h' tk acc hk hacc => ?_)
  have hal : acc.toList.length = ks.length := by rw [Array.length_toList, hacc.1, l1]
  have ea : acc.toList = bs.map Value.ref := by
    rw [← hbs, List.map_map]
    apply List.ext_getElem?
    intro j
    rw [List.getElem?_map]
    cases hj : acc.toList[j]? with
    | none =>
      have h1 := List.getElem?_eq_none_iff.mp hj
      rw [List.getElem?_eq_none (by omega)]
      all_goals rfl
    | some v =>
      obtain ⟨en, hen, hv⟩ := hacc.2 j v (by rw [← Array.getElem?_toList]; exact hj)
      have qe := entry_at he j
      rw [hen] at qe
      cases hb : ks[j]? with
      | none =>
        rw [hb] at qe
        exact nomatch (show some en = none from qe)
      | some b =>
        rw [hb] at qe
        have e2 : en = entryOfKey (tupleKind (mixKind X.prog X.w)) b := Option.some.inj qe
        rw [hv, e2]
        all_goals rfl
  rw [ea]
  have I1 : L2.Inv X pins σ H { s with heap := h', toks := tk } := I.kept hk
  have hz : (bs.map Value.ref).length ≤ sizeLine := by rw [List.length_map]; omega
  refine wpAny_bind (wpAny_newList ?_ hz)
  have hoL : (h'.push (seqObj "list" (bs.map Value.ref).toArray 0)).get? h'.objs.size = some (seqObj "list" (bs.map Value.ref).toArray 0) := Heap.get?_push_size _ rfl
  have hI : ∀ v ∈ bs.map Value.ref, IntTup h' v (kfH H (adOf v)) := fun v hv => by
    obtain ⟨b, hb, rfl⟩ := List.mem_map.mp hv
    exact intTup_of (s := { s with heap := h', toks := tk }) I1 (.inl (.inl (k2 b hb)))
  show wpAny _ _ _ _ _ { s with heap := h'.push (seqObj "list" (bs.map Value.ref).toArray 0), toks := tk }
  refine wpAny_bind (wpAny_holding (wpAny_call_entry PyProof.Rows.slot_list_sort ⟨_, hoL, rfl⟩ PyProof.Rows.entry_list_sort
    (SrtO.list_sort_ord (s := { s with heap := h'.push (seqObj "list" (bs.map Value.ref).toArray 0), toks := tk }) (swo_lexL fun v => kfH H (adOf v)) hoL hz (fun h2 => ?_) fun out g1 g2 => ⟨_, rfl, ?_⟩) (PyProof.Rows.args_list_sort _)))
  · rw [List.length_map] at h2
    refine tup_sortable (by rw [List.length_map]; omega) (fun v hv => ⟨(hI v hv).keeps fun b o e _ => Heap.get?_push_of_some _ e, ?_⟩) fun o e => ?_
    · obtain ⟨b, hb, rfl⟩ := List.mem_map.mp hv
      exact hne (by omega) _ (by rw [← k1]; exact List.mem_map.mpr ⟨b, hb, rfl⟩)
    · have e' : some o = some (seqObj "list" (bs.map Value.ref).toArray 0) := e.symm.trans hoL
      cases e'
      intro c
      exact absurd (Value.type.inj c) (by decide)
  obtain ⟨cs, rfl, pm⟩ := perm_refs g2.perm
  obtain ⟨e', he'⟩ := PyProof.Rows.sortedHeap_at (vs := bs.map Value.ref) (out := (cs.map Value.ref).toArray) hoL
  have hlen : (cs.map V.ref).length ≤ sizeLine := by rw [List.length_map, pm.length_eq]; rw [List.length_map] at hz; exact hz
  have hsr : cs.Pairwise (fun a b => lexL (kfH H b) (kfH H a) = false) := List.pairwise_map.mp g1
  refine wpAny_pure ⟨_, rfl, .ref h'.objs.size, upd H h'.objs.size (.lst (cs.map V.ref)), I1.laid (t' := tk) (fun b u e => ?_) (Nat.le_refl _)
    (show ObjOk X.prog X.w _ _ _ (.lst (cs.map V.ref)) from ⟨hlen, cs.map Value.ref, e', vals_refsG cs, he'⟩), rfl, q bs cs _ k1 k2 pm hsr (I1.hok.fresh (Nat.le_refl _))⟩
  have e1 := e
  show (PyProof.Rows.sortedHeap (h'.push (seqObj "list" (bs.map Value.ref).toArray 0)) h'.objs.size (bs.map Value.ref) (cs.map Value.ref).toArray).get? b = some u
  rw [PyProof.Rows.sortedHeap_old (Nat.ne_of_lt (Heap.lt_size e1)) (by rw [PyProof.Rows.size_push']; exact Nat.lt_succ_of_lt (Heap.lt_size e1))]
  exact Heap.get?_push_of_some _ e1
section
variable {K : PySem.W.Frag} {B : List Addr} {H : Hp} {g : GH}
theorem trk_dl {p : Addr} {od : Obj} {r : List (List Key × V)} {xs : List (List Key × D)} (w : Vw K B H g) (h : g p = some (.dl od r xs)) : H p = some (.frz od (.dT r)) ∧ DRep K (hide H B) g r xs := by
  obtain ⟨u, hu, q⟩ := w.rg p _ h
  cases q with
  | dl q => exact ⟨(of_hide hu).1, q⟩
theorem keys_reps {H : Hp} : ∀ ks : List Key, Reps K H g (ks.map kV) (ks.map keyD)
  | [] => .nil
  | .inl i :: ks => .cons (.int i) (keys_reps ks)
  | .inr x :: ks => .cons (.str x) (keys_reps ks)
theorem not_hid {b : Addr} {vs : List V} (w : Vw K B H g) (h : H b = some (.tup vs)) : b ∉ B := fun m => by
  obtain ⟨us, e⟩ := w.dom b m
  rw [h] at e; cases e
theorem key_rep {b : Addr} {k : List Key} (w : Vw K B H g) (h : H b = some (.tup (k.map kV))) : Rep K (hide H B) g (.ref b) (.tup (k.map keyD)) :=
  .tup (by rw [hide_out (not_hid w h)]; exact h) (keys_reps k)
end
/-- d[k] of a locked dict -/
def fDIxL : R → R → GH → QK → Prop := fun x y g Q => match x with
  | .v (.ref a) => ∃ od r kvs k d, g a = some (.dl od r kvs) ∧ y.fz = .tup (k.map .int) ∧ lookD kvs (tK k) = some d ∧ Q (.v d) g
  | _ => False
theorem ok_dIxL {K : PySem.W.Frag} : R2Ok K fDIxL rDIx := fun x y d e B H g Q0 Q rx ry w q c => by
  unfold fDIxL at q
  split at q
  · rename_i a
    cases rx
    obtain ⟨od, vs, kvs, k, z, hg, hk, hl, q⟩ := q
    obtain ⟨hp, r⟩ := trk_dl w hg
    rw [hk] at ry
    obtain ⟨b, rfl, hb⟩ := tKey_rep ry
    rcases r.look (tK k) with ⟨e1, e2⟩ | ⟨v, d', e1, e2, r'⟩
    · rw [hl] at e2; cases e2
    · rw [hl] at e2; cases e2
      exact ⟨a, v, rfl, e1 ▸ .inr ⟨_, _, b, .inr ⟨_, hp⟩, rfl, (of_hide hb).1, rfl⟩, c.here q r' w⟩
  · exact q.elim
theorem reps_intsW {K : PySem.W.Frag} {H : Hp} {g : GH} : ∀ ns : List Int, Reps K H g (ns.map V.int) (ns.map D.int)
  | [] => .nil
  | n :: ns => .cons (.int n) (reps_intsW ns)
/-- tuples of whole numbers: where they stand -/
theorem reps_tups {K : PySem.W.Frag} {B : List Addr} {H : Hp} {g : GH} : ∀ {vs : List V} {ts : List (List Int)}, Reps K (hide H B) g vs (ts.map fun t => .tup (t.map .int)) → ∃ bs : List Addr, vs = bs.map V.ref ∧ bs.map (kfH H) = ts ∧ ∀ b ∈ bs, H b = some (.tup ((kfH H b).map V.int))
  | _, [], .nil => ⟨[], rfl, rfl, fun b hb => nomatch hb⟩
  | _, t :: ts, .cons r q => by
    obtain ⟨bs, rfl, h2, h3⟩ := reps_tups q
    have r' : Rep K (hide H B) g _ (.tup (t.map .int)) := r
    obtain ⟨b, rfl, hb⟩ := tKey_rep r'
    have hb : H b = some (.tup (t.map V.int)) := by
      have := (of_hide hb).1
      unfold tK at this
      rw [List.map_map] at this
      exact this
    have hk := kfH_tup hb
    refine ⟨b :: bs, rfl, by rw [List.map_cons, hk, h2], fun c hc => ?_⟩
    rcases List.mem_cons.mp hc with rfl | hc
    · rw [hk]; exact hb
    · exact h3 c hc
theorem tups_reps {K : PySem.W.Frag} {B : List Addr} {H : Hp} {g : GH} (w : Vw K B H g) : ∀ {cs : List Addr}, (∀ b ∈ cs, H b = some (.tup ((kfH H b).map V.int))) → Reps K (hide H B) g (cs.map V.ref) ((cs.map (kfH H)).map fun t => .tup (t.map .int))
  | [], _ => .nil
  | c :: cs, h => by
    refine .cons ?_ (tups_reps w fun b hb => h b (List.mem_cons_of_mem _ hb))
    have hc := h c List.mem_cons_self
    exact .tup (by rw [hide_out (not_hid w hc)]; exact hc) (reps_intsW _)
end G3
/-! G3da: dict(x), x == y of dicts whose keys are objects -/
namespace G3
open PySem PySem.Spec PySem.W PySem.Calls PyProof.Rows PyProof.V
section
variable {prog : Program} {w : World} {κ : Type} [DecidableEq κ] {kd : HeapKind prog w κ} {A : Around} {E : Value → Shared → Prop} {s : Shared}
theorem dictH_call {c : Addr} {xs : List (κ × Addr × Value)} {Q : Value → Shared → Prop} (hu : ∀ B : Around, B.units ≤ A.units + 2 → kd.room B) (hc : (c == sysModules) = false) (hx : s.heap.DictOfH kd c xs) (hz : xs.length ≤ sizeLine)
    (hty : ∀ x ∈ xs, s.TypeIs (.ref x.2.1) "tuple") (hap : (xs.map fun x => kd.hash x.1).Nodup) (hst : ∀ h', (∀ b o, s.heap.get? b = some o → h'.get? b = some o) → ∀ x ∈ xs, kd.is h' x.1 x.2.1)
    (q : ∀ h', h'.DictOfH kd s.heap.objs.size xs → Heap.SameBut s.heap.objs.size (s.heap.push { cls := .type "dict", data := .dict #[] }) h' → Q (.ref s.heap.objs.size) { s with heap := h' }) :
    wpAny (model prog w) A (call (.type "dict") [.ref c]) Q E s := by
  refine callType_codes (Q₁ := fun v s1 => v = .ref s.heap.objs.size ∧ s1 = { s with heap := s.heap.push { cls := .type "dict", data := .dict #[] } }) F.kt_called_dict (F.kt_typeCall_dict_1 _) F.entry_dict_init (kt_code_dict_new _ ⟨rfl, rfl⟩) ?_
  rintro v s1 ⟨rfl, rfl⟩
  have up : ∀ b o, s.heap.get? b = some o → (s.heap.push { cls := .type "dict", data := .dict #[] }).get? b = some o := fun b o e => Heap.get?_push_of_some _ e
  have n1 : (s.heap.push { cls := .type "dict", data := .dict #[] }).DictOfH kd s.heap.objs.size [] := Heap.DictOfH.new s.heap
  have x1 : (s.heap.push { cls := .type "dict", data := .dict #[] }).DictOfH kd c xs := hx.at' (fun o e => up _ _ e) (hst _ up)
  have nd : (xs.map (·.1)).Nodup := hx.nodup
  have ne : s.heap.objs.size ≠ c := fun e => absurd hx.lt_size (by rw [e]; exact Nat.lt_irrefl _)
  refine ⟨n1.typeIs, F.args_dict_init_2 _ _, ?_⟩
  unfold Builtin.«dict.__init__»
  refine wpAny_bind ?_
  unfold Builtin.Dict.selfAndRest
  refine wpAny_bind (wpAny_notOrdered_dict n1.typeIs ?_)
  show wpAny _ _ (pure (s.heap.objs.size, [Value.ref c])) _ _ _
  refine wpAny_pure ?_
  show wpAny _ _ (Builtin.Dict.updateFrom "dict.__init__" s.heap.objs.size (.ref c) [] .none) _ _ _
  refine updateFrom_dictH .none (hu _ ?_) ne hc n1 x1 (.inr ⟨fun x m => ?_, hap⟩) (by simpa using hz) fun h' d1 _ sb => ?_
  · exact Nat.le_refl _
  · obtain ⟨o, e1, e2⟩ := hty x m
    exact ⟨o, up _ _ e1, e2⟩
  · rw [storedAllH_nil_of_nodup xs nd] at d1
    exact ⟨rfl, q h' d1 sb⟩
/-- what a row of the one holds is what the other holds -/
def hitH (eb : κ → Bool) (ys : List (κ × Addr × Value)) (x : κ × Addr × Value) : Bool := (atKey ys x.1).isSome && eb x.1
theorem sameH {nm : String} {c d : Addr} {xs ys : List (κ × Addr × Value)} {eb : κ → Bool} {Q : Bool → Shared → Prop} (hu : kd.room A) (hc : (c == sysModules) = false) (hd : (d == sysModules) = false)
    (hx : s.heap.DictOfH kd c xs) (hy : s.heap.DictOfH kd d ys) (he : ∀ x ∈ xs, ∀ y ∈ ys, y.1 = x.1 → SeqAt.EqAt A s x.2.2 y.2.2 (eb x.1)) (q : Q (decide (xs.length = ys.length) && xs.all (hitH eb ys)) s) :
    wpAny (model prog w) A (Builtin.Dict.samePairs nm c d) Q E s := by
  obtain ⟨oc, ec, pc, gc, -, dc, lc, ic, nc⟩ := hx
  obtain ⟨od, ed, pd', gd, -, dd, ld, id', nd⟩ := hy
  have zc := size_of_entries lc
  have zd := size_of_entries ld
  unfold Builtin.Dict.samePairs Builtin.Dict.showsAll
  rw [if_neg (by rw [hc]; exact Bool.false_ne_true), if_neg (by rw [hd]; exact Bool.false_ne_true)]
  refine wpAny_bind (wpAny_pure (wpAny_bind (wpAny_pure (wpAny_bind (wpAny_dictEntries gc dc ?_)))))
  dsimp only
  refine wpAny_bind (wpAny_dictEntries gd dd ?_)
  by_cases z : ec.size = ed.size
  · have zz : xs.length = ys.length := by omega
    rw [decide_eq_true zz, Bool.true_and] at q
    rw [if_neg (by rw [z]; simp)]
    refine wpAny_bind (wpAny_dictEpoch gc dc (wpAny_bind ?_))
    rw [Std.Legacy.Range.forIn_eq_forIn_range']
    simp only [Std.Legacy.Range.size, Nat.sub_zero, Nat.add_sub_cancel, Nat.div_one]
    refine wpAny_forIn_list _ (fun rest st s' => s' = s ∧ st = (none, ()) ∧ ∃ j, rest = List.range' j (ec.size - j) ∧ j ≤ ec.size ∧ (xs.drop j).all (hitH eb ys) = xs.all (hitH eb ys)) _ ?_ ?_ _ _ ⟨rfl, rfl, 0, by simp, Nat.zero_le _, by simp⟩
    · rintro t rest st s' ⟨rfl, rfl, j, hr, hj, hall⟩
      have jl : j < ec.size := Nat.lt_of_not_le fun z => by rw [Nat.sub_eq_zero_of_le z] at hr; cases hr
      have e1 : ec.size - j = (ec.size - (j + 1)) + 1 := by omega
      rw [e1, List.range'_succ] at hr
      injection hr with hr1 hr2
      subst hr1
      have jx : t < xs.length := by omega
      have hx0 : xs[t]? = some xs[t] := List.getElem?_eq_getElem jx
      have hent : ec[t]? = some (entryOfKey kd xs[t]) := by rw [entry_at lc t, hx0]; rfl
      have hdr : xs.drop t = xs[t] :: xs.drop (t + 1) := List.drop_eq_getElem_cons jx
      rw [hdr, List.all_cons] at hall
      refine wpAny_bind (wpAny_dictEntries gc dc ?_)
      rw [hent]
      show wpAny _ _ (holding [(entryOfKey kd xs[t]).key, (entryOfKey kd xs[t]).val] _ >>= _) _ _ _
      refine wpAny_bind (wpAny_holding (wpAny_bind (wpAny_dictFind_heap (k := xs[t].1) hu (ic _ (List.getElem_mem jx)) gd dd ld id' nd (fun hno => ?_) fun i p hi => ?_)))
      · have hf : hitH eb ys xs[t] = false := by unfold hitH; rw [atKey_none_of_get hno]; rfl
        rw [hf, Bool.false_and] at hall
        rw [← hall] at q
        refine wpAny_pure ?_
        show wpAny _ _ (if (!false) = true then pure (ForInStep.done (some false, ())) else _) _ _ _
        rw [if_pos (show (!false) = true from rfl)]
        exact wpAny_pure (wpAny_pure q)
      · have hf : hitH eb ys xs[t] = eb xs[t].1 := by unfold hitH; rw [atKey_of_get nd hi]; rfl
        rw [hf] at hall
        refine wpAny_bind (wpAny_dictEntries gd dd ?_)
        rw [entry_at ld i, hi]
        refine wpAny_holding (he _ (List.getElem_mem jx) _ (List.mem_of_getElem? hi) rfl prog w _ _ ?_)
        cases hb : eb xs[t].1 with
        | false =>
          rw [hb, Bool.false_and] at hall
          rw [← hall] at q
          show wpAny _ _ (if (!false) = true then pure (ForInStep.done (some false, ())) else _) _ _ _
          rw [if_pos (show (!false) = true from rfl)]
          exact wpAny_pure (wpAny_pure q)
        | true =>
          rw [hb, Bool.true_and] at hall
          show wpAny _ _ (if (!true) = true then pure (ForInStep.done (some false, ())) else _) _ _ _
          rw [if_neg (show ¬ (!true) = true by decide)]
          refine wpAny_bind (wpAny_dictEpoch gc dc ?_)
          rw [if_neg (by simp)]
          exact wpAny_pure ⟨rfl, rfl, t + 1, hr2, jl, hall⟩
    · rintro st s' ⟨rfl, rfl, j, hr, hj, hall⟩
      have : j = ec.size := Nat.le_antisymm hj (Nat.le_of_not_lt fun z => by
        have e1 : ec.size - j = (ec.size - (j + 1)) + 1 := by omega
        rw [e1, List.range'_succ] at hr; cases hr)
      subst this
      rw [List.drop_of_length_le (by omega)] at hall
      rw [← hall] at q
      exact wpAny_pure q
  · rw [if_pos (by simpa using z)]
    have zz : xs.length ≠ ys.length := by omega
    rw [decide_eq_false zz, Bool.false_and] at q
    exact wpAny_bind (wpAny_rule (wpAny_pure q))
theorem neH {c d : Addr} {xs ys : List (κ × Addr × Value)} {eb : κ → Bool} {Q : Value → Shared → Prop} (hr : A.units < cLine) (hu : kd.room A.in1) (hc : (c == sysModules) = false) (hd : (d == sysModules) = false)
    (hx : s.heap.DictOfH kd c xs) (hy : s.heap.DictOfH kd d ys) (he : ∀ x ∈ xs, ∀ y ∈ ys, y.1 = x.1 → SeqAt.EqAt A.in1 s x.2.2 y.2.2 (eb x.1)) (q : Q (.bool (!(decide (xs.length = ys.length) && xs.all (hitH eb ys)))) s) :
    wpAny (model prog w) A (compareOp .NotEq (.ref c) (.ref d)) Q E s := by
  refine wpAny_richCompare_same_room (op := .NotEq) hx.typeIs hy.typeIs PySem.F.slot_dict_ne (wpAny_call_entry PySem.F.slot_dict_ne hx.typeIs PySem.F.entry_dict_ne ?_ (PySem.F.args_dict_ne_2 _ _)) hr
  show wpAny _ _ (Builtin.Dict.dictSlotArgs "__ne__" ⟨[.ref c, .ref d], []⟩ >>= _) _ _ s
  unfold Builtin.Dict.dictSlotArgs
  refine wpAny_bind (wpAny_bind (wpAny_notOrdered_dict hx.typeIs ?_))
  show wpAny _ _ (pure (Value.ref c, Value.ref d)) _ _ s
  refine wpAny_pure (wpAny_bind (wpAny_isInstance (T := "dict") hy.typeIs PySem.F.sub_dict_dict ?_))
  simp only [Bool.not_true, Bool.false_eq_true, if_false]
  refine wpAny_bind (wpAny_pure (wpAny_bind (wpAny_pure (wpAny_bind (sameH hu hc hd hx hy he ?_)))))
  exact wpAny_pure ⟨_, rfl, nofun, by simpa using q⟩
theorem eqH {c d : Addr} {xs ys : List (κ × Addr × Value)} {eb : κ → Bool} {Q : Value → Shared → Prop} (hr : A.units < cLine) (hu : kd.room A.in1) (hc : (c == sysModules) = false) (hd : (d == sysModules) = false)
    (hx : s.heap.DictOfH kd c xs) (hy : s.heap.DictOfH kd d ys) (he : ∀ x ∈ xs, ∀ y ∈ ys, y.1 = x.1 → SeqAt.EqAt A.in1 s x.2.2 y.2.2 (eb x.1)) (q : Q (.bool (decide (xs.length = ys.length) && xs.all (hitH eb ys))) s) :
    wpAny (model prog w) A (compareOp .Eq (.ref c) (.ref d)) Q E s := by
  refine wpAny_richCompare_same_room (op := .Eq) hx.typeIs hy.typeIs PySem.F.slot_dict_eq (wpAny_call_entry PySem.F.slot_dict_eq hx.typeIs PySem.F.entry_dict_eq ?_ (PySem.F.args_dict_eq_2 _ _)) hr
  show wpAny _ _ (Builtin.Dict.dictSlotArgs "__eq__" ⟨[.ref c, .ref d], []⟩ >>= _) _ _ s
  unfold Builtin.Dict.dictSlotArgs
  refine wpAny_bind (wpAny_bind (wpAny_notOrdered_dict hx.typeIs ?_))
  show wpAny _ _ (pure (Value.ref c, Value.ref d)) _ _ s
  refine wpAny_pure (wpAny_bind (wpAny_isInstance (T := "dict") hy.typeIs PySem.F.sub_dict_dict ?_))
  simp only [Bool.not_true, Bool.false_eq_true, if_false]
  refine wpAny_bind (wpAny_pure (wpAny_bind (wpAny_pure (wpAny_bind (sameH hu hc hd hx hy he ?_)))))
  exact wpAny_pure ⟨_, rfl, nofun, by simpa using q⟩
end
end G3
/-! G3dt: dicts by tuples: copied, compared -/
namespace G3
open PySem PySem.Spec PyProof.Rows L2
/-- a tuple's number in a table -/
def hshI (ns : List Int) : Int := reduceHash (Builtin.Tuple.tupleHashOf (ns.map hashInt))
theorem hsh_eq {P : Program} {w : World} (ns : List Int) : (tupleKind (mixKind P w)).hash (tK ns) = hshI ns := by
  show reduceHash (Builtin.Tuple.tupleHashOf ((ns.map Sum.inl).map (keyH w))) = _
  rw [List.map_map]; rfl
/-- keys of whole numbers, no two of one number in a table -/
def HApart (ks : List (List Key)) : Prop := ∃ nss : List (List Int), ks = nss.map tK ∧ (nss.map hshI).Nodup
theorem KT.keys {H : Hp} : ∀ {kvs : List (List Key × V)} {xs : List (List Key × Addr × Value)}, KT H kvs xs → xs.map (·.1) = kvs.map (·.1)
  | _, _, .nil => rfl
  | _, _, .cons h t => by rw [List.map_cons, List.map_cons, KT.keys t, h.1]
theorem KT.all {H : Hp} : ∀ {kvs : List (List Key × V)} {xs : List (List Key × Addr × Value)}, KT H kvs xs → ∀ x ∈ xs, ∃ v, (x.1, v) ∈ kvs ∧ H x.2.1 = some (.tup (x.1.map kV)) ∧ RelV v x.2.2
  | _, _, .nil, x, m => nomatch m
  | _, _, .cons (a := p) (b := q) h t, x, m => by
    rcases List.mem_cons.mp m with rfl | m
    · exact ⟨p.2, by rw [← h.1]; exact List.mem_cons_self, by rw [← h.1]; exact h.2.1, h.2.2⟩
    · obtain ⟨v, h1, h2⟩ := KT.all t x m
      exact ⟨v, List.mem_cons_of_mem _ h1, h2⟩
theorem key_ext {P : Program} {w : World} {h h' : Heap} {k : List Key} {a : Addr} (x : (tupleKind (mixKind P w)).is h k a) (e : ∀ o, h.get? a = some o → h'.get? a = some o) : (tupleKind (mixKind P w)).is h' k a := by
  obtain ⟨o, its, n, h1, h2⟩ := x
  exact ⟨o, its, n, e o h1, h2⟩
theorem key_ty {P : Program} {w : World} {s : Shared} {k : List Key} {a : Addr} (x : (tupleKind (mixKind P w)).is s.heap k a) : s.TypeIs (.ref a) "tuple" := by
  obtain ⟨o, its, n, h1, h2, _⟩ := x
  exact ⟨o, h1, h2⟩
def rCopyT : List V → Hp → VK → Prop := fun xs H Q => ∃ (a : Addr) (kvs : List (List Key × V)), xs = [.ref a] ∧ Rd H a (.dT kvs) ∧ HApart (kvs.map (·.1)) ∧ ∀ p, H p = none → Q (.ref p) (upd H p (.dT kvs))
theorem call_dictT {X : Cx} (hu : X.A.units + 2 < cLine) : CallR X (.type "dict") rCopyT := by
  intro pins s σ H xs us Q I r ⟨a, kvs, ex, hd, ⟨nss, ek, ea⟩, q⟩
  subst ex
  obtain ⟨u, eu, rx⟩ := vals1 r
  subst eu
  cases rx
  obtain ⟨z, lo, vs, rel, dd⟩ := dt_rd I.hok hd
  have keyat : ∀ x ∈ vs, (tupleKind (mixKind X.prog X.w)).is s.heap x.1 x.2.1 := fun x m => by
    obtain ⟨v, _, h2, _⟩ := KT.all rel x m
    exact key_of I.hok h2
  have hl : vs.length = kvs.length := by have := congrArg List.length (KT.keys rel); simpa using this
  refine dictH_call (fun B hb => (show B.units < cLine by omega)) lo dd (by omega) (fun x m => key_ty (keyat x m)) ?_ (fun h' k x m => key_ext (keyat x m) fun o e => k _ _ e) fun h' d' sb => ?_
  · have e1 : vs.map (fun x => (tupleKind (mixKind X.prog X.w)).hash x.1) = (vs.map (·.1)).map (tupleKind (mixKind X.prog X.w)).hash := by rw [List.map_map]; rfl
    have e2 : (nss.map tK).map (tupleKind (mixKind X.prog X.w)).hash = nss.map hshI := by rw [List.map_map]; exact List.map_congr_left fun ns _ => hsh_eq ns
    rw [e1, KT.keys rel, ek, e2]
    exact ea
  · have hm : (s.heap.objs.size == sysModules) = false := beq_eq_false_iff_ne.mpr (Nat.ne_of_gt I.big)
    have hn := I.hok.fresh (Nat.le_refl s.heap.objs.size)
    obtain ⟨o, es, ep, g1, g2, g3, g4, g5, g6⟩ := d'
    refine ⟨.ref s.heap.objs.size, upd H s.heap.objs.size (.dT kvs), I.laid (t' := s.toks) (fun b u e => (sb.2 b (Nat.ne_of_lt (Heap.lt_size e))).trans (Heap.get?_push_of_some _ e)) (Nat.le_refl _) ?_, rfl, q _ hn⟩
    exact ⟨z, hm, vs, KT.keeps rel (fun b ys e => by rw [upd_ne (fun z => by rw [z, hn] at e; cases e)]; exact e), o, es, ep, g1, g2, g3, g4, g6⟩
/-! ### d.pop(k), d.get(k, x) -/
section
variable {X : Cx}
def rPop1T : V → List V → Hp → VK → Prop := fun x xs H Q => ∃ (a : Addr) (kvs : List (List Key × V)) (k : List Key) (b : Addr) (v : V), x = .ref a ∧ xs = [.ref b] ∧ H a = some (.dT kvs) ∧ H b = some (.tup (k.map kV)) ∧ valV kvs k = some v ∧ Q v (upd H a (.dT (dropK kvs k)))
theorem mt_pop1T (hu : X.A.units + 1 < cLine) : MtR X "dict.pop" rPop1T := by
  intro pins s σ H x xs v us Q I rx rxs ⟨a, kvs, k, b, y, ex, exs, ha, hb, hv, q⟩
  subst ex exs
  cases rx
  obtain ⟨u, eu, ru⟩ := vals1 rxs
  subst eu
  cases ru
  obtain ⟨z, lo, ws, rel, dd⟩ := dt_of I.hok ha
  have hl : ws.length ≤ sizeLine := by rw [← Paired.length rel]; exact z
  have rk := rel.val k
  rw [hv] at rk
  obtain ⟨p, ep, rp⟩ : ∃ p, atKey ws k = some p ∧ RelV y p.2 := by
    cases e : atKey ws k with
    | none => rw [e] at rk; exact (show False from rk).elim
    | some p => rw [e] at rk; exact ⟨p, rfl, rk⟩
  refine call_pop_heap (knd := tupleKind (mixKind X.prog X.w)) (.inl rfl) (F.args_dict_pop_2 _ _) (tupleKind_room_in1 hu) (key_of I.hok hb) lo dd ep (fun h' d' sb => ?_) hl
  obtain ⟨o, es, n, g1, g2, g3, g4, _, g6⟩ := d'
  have I2 : L2.Inv X pins σ (upd H a (.dT (dropK kvs k))) { s with heap := h', toks := s.toks + (tupleKind (mixKind X.prog X.w)).draws k } :=
    d_write I (by rw [ha]; exact True.intro) sb ⟨o, g1⟩ ⟨Nat.le_trans (dropK_le kvs k) z, lo, _, (DX.KT_drop k rel).keeps (fun c ys ec => (by rw [upd_ne (ne_of ec ha (fun z => nomatch z))]; exact ec)), o, es, n, g1, g2, g3, g4, g6⟩
  exact ⟨y, _, I2, rp, q⟩
def rGetT : V → List V → Hp → VK → Prop := fun x xs H Q => ∃ (a : Addr) (kvs : List (List Key × V)) (k : List Key) (b : Addr) (d : V), x = .ref a ∧ xs = [.ref b, d] ∧ Rd H a (.dT kvs) ∧ H b = some (.tup (k.map kV)) ∧ Q ((valV kvs k).getD d) H
theorem mt_getT (hu : X.A.units + 1 < cLine) : MtR X "dict.get" rGetT := by
  intro pins s σ H x xs v us Q I rx rxs ⟨a, kvs, k, b, d, ex, exs, ha, hb, q⟩
  subst ex exs
  cases rx
  obtain ⟨u1, u2, eu, r1, r2⟩ := vals2 rxs
  subst eu
  cases r1
  obtain ⟨z, lo, ws, rel, dd⟩ := dt_rd I.hok ha
  refine call_meetsIn F.slot_dict_get dd.typeIs F.entry_dict_get (F.args_dict_get_3 _ _ _) (meetsH_dict_get_default (tupleKind (mixKind X.prog X.w)) _ _ lo u2) ⟨tupleKind_room_in1 hu, k, ws, key_of I.hok hb, dd, ?_⟩
  have rk := rel.val k
  refine ⟨(valV kvs k).getD d, H, I.tok _, ?_, q⟩
  cases e : valV kvs k with
  | none =>
    rw [e] at rk
    cases e2 : (atKey ws k).map (·.2) with
    | none => exact r2
    | some p => rw [e2] at rk; exact (show False from rk).elim
  | some y =>
    rw [e] at rk
    cases e2 : (atKey ws k).map (·.2) with
    | none => rw [e2] at rk; exact (show False from rk).elim
    | some p => rw [e2] at rk; exact rk
end
/-! ### dict(xs), xs a list of pairs -/
def mergeT (kvs more : List (List Key × V)) : List (List Key × V) := more.foldl (fun acc kv => putK acc kv.1 kv.2) kvs
theorem len_mergeT : ∀ (more kvs : List (List Key × V)), (mergeT kvs more).length ≤ kvs.length + more.length
  | [], kvs => Nat.le_add_right _ _
  | p :: r, kvs => by
    have h1 := len_mergeT r (putK kvs p.1 p.2)
    have h2 := length_putK kvs p.1 p.2
    show (mergeT (putK kvs p.1 p.2) r).length ≤ _
    rw [List.length_cons]; omega
theorem KT.merge {H : Hp} : ∀ {more : List (List Key × V)} {rs : List (List Key × Addr × Value)} {kvs : List (List Key × V)} {xs : List (List Key × Addr × Value)}, KT H more rs → KT H kvs xs → KT H (mergeT kvs more) (storedAllH xs rs)
  | _, _, kvs, xs, .nil, h => h
  | _, _, kvs, xs, .cons (a := p) (b := q) hp t, h => by
    have h1 : KT H (putK kvs p.1 p.2) (storedH xs q.1 q.2.1 q.2.2) := by
      rw [← hp.1]
      exact h.put p.1 hp.2.1 hp.2.2
    have h2 := KT.merge t h1
    exact h2
def PrT (K : PySem.W.Frag) (H : Hp) (p : Addr) (row : List Key × V) : Prop := ∃ b, SqT K H p [.ref b, row.2] ∧ H b = some (.tup (row.1.map kV))
theorem prT_of {X : Cx} {pins : List (Addr × Obj)} {σ : L2.St} {H : Hp} {s : Shared} (I : L2.Inv X pins σ H s) : ∀ {ps : List Addr} {rows : List (List Key × V)}, Paired (PrT X.K H) ps rows →
    ∃ rs, KT H rows rs ∧ rs.length = ps.length ∧ ∀ (j : Nat) (q : List Key × Addr × Value), rs[j]? = some q → ∃ T, ps[j]? = some T ∧ IsTup s.heap T #[.ref q.2.1, q.2.2]
  | _, _, .nil => ⟨[], .nil, rfl, fun j q e => by simp at e⟩
  | _, _, .cons (a := p) (b := row) ⟨b, hp, hb⟩ t => by
    obtain ⟨rs, r, hl, hq⟩ := prT_of I t
    obtain ⟨its, rv, ht, _⟩ := I.tuple hp
    obtain ⟨u, y, ei, ru, ry⟩ := vals2 rv
    subst ei
    cases ru
    refine ⟨(row.1, b, y) :: rs, .cons ⟨rfl, hb, ry⟩ r, congrArg (· + 1) hl, fun j q e => ?_⟩
    cases j with
    | zero => cases e; exact ⟨p, rfl, ht⟩
    | succ j => exact hq j q e
def rPairsT (K : PySem.W.Frag) : List V → Hp → VK → Prop := fun xs H Q => ∃ (a : Addr) (ps : List Addr) (rows : List (List Key × V)), xs = [.ref a] ∧ SqL K H a (ps.map V.ref) ∧ Paired (PrT K H) ps rows ∧ ∀ p, H p = none → Q (.ref p) (upd H p (.dT (mergeT [] rows)))
theorem call_pairsT {X : Cx} (hc : X.calm = true) (hu : X.A.units + 2 < cLine) : CallR X (.type "dict") (rPairsT X.K) := by
  intro pins s σ H xs us Q I r ⟨a, ps, rows, ex, hq, hp, q⟩
  subst ex
  obtain ⟨u, eu, rx⟩ := vals1 r
  subst eu
  cases rx
  obtain ⟨its, rv, pl, hz⟩ := I.list hq
  obtain rfl := refs_at rv
  rw [List.length_map] at hz
  obtain ⟨rs, rel, hl, hpr⟩ := prT_of I hp
  obtain ⟨o, n, ho, hcl, hdc, hdat⟩ := pl
  have keyat : ∀ x ∈ rs, (tupleKind (mixKind X.prog X.w)).is s.heap x.1 x.2.1 := fun x m => by
    obtain ⟨v, _, h2, _⟩ := KT.all rel x m
    exact key_of I.hok h2
  have lt : ∀ x ∈ rs, x.2.1 < s.heap.objs.size := fun x m => by
    obtain ⟨o, its, n, h1, _⟩ := keyat x m
    exact Heap.lt_size h1
  have hlr : rows.length = rs.length := Paired.length rel
  refine call_dict_pairsH (knd := tupleKind (mixKind X.prog X.w)) (ps := rs) (PairArg.list a (ps.map Value.ref).toArray (fun j => ps.getD j 0) (rs.map fun x => (Value.ref x.2.1, x.2.2))) (I.ok.hd hc) (show X.A.units + 2 < cLine from hu) ⟨⟨o, n, ho, hcl, hdc, hdat⟩, ?_, fun j k v e => ?_⟩ ⟨by rw [List.length_map], fun i k v e => ?_⟩ (fun h' k x m => key_ext (keyat x m) fun o e => k _ _ (Nat.ne_of_lt (lt x m)) (by simp) e) (by rw [List.length_map]; omega) fun h' tk d' k => ?_
  · rw [List.size_toArray, List.length_map, List.length_map, hl]
  · rw [List.getElem?_map, Option.map_eq_some_iff] at e
    obtain ⟨x, ex, e⟩ := e
    cases e
    obtain ⟨T, eT, ht⟩ := hpr j x ex
    have e2 : ps.getD j 0 = T := by rw [List.getD_eq_getElem?_getD, eT]; rfl
    dsimp only
    rw [e2]
    exact ⟨by simp [eT], .inl ht⟩
  · have e : (rs.map fun x => (Value.ref x.2.1, x.2.2))[i]? = some (k, v) := e
    rw [List.getElem?_map, Option.map_eq_some_iff] at e
    obtain ⟨x, ex, e⟩ := e
    cases e
    exact ⟨x.1, x.2.1, ex, rfl⟩
  · have hm : (s.heap.objs.size == sysModules) = false := beq_eq_false_iff_ne.mpr (Nat.ne_of_gt I.big)
    have hn := I.hok.fresh (Nat.le_refl s.heap.objs.size)
    have hlen : (mergeT [] rows).length ≤ sizeLine := by have := len_mergeT rows []; simp only [List.length_nil] at this; omega
    obtain ⟨o, es, ep, g1, g2, g3, g4, g5, g6⟩ := d'
    refine ⟨.ref s.heap.objs.size, upd H s.heap.objs.size (.dT (mergeT [] rows)), I.laid (t' := tk) (fun b u e => k b u (by simp) e) (Nat.le_refl _) ?_, rfl, q _ hn⟩
    exact ⟨hlen, hm, storedAllH [] rs, KT.keeps (KT.merge rel .nil) (fun b ys e => by rw [upd_ne (fun z => by rw [z, hn] at e; cases e)]; exact e), o, es, ep, g1, g2, g3, g4, g6⟩
/-! ### x == y of dicts by tuples -/
def eqB (fx fy : List Key → PyData) (ks ls : List (List Key × V)) : Bool := decide (ks.length = ls.length) && ks.all fun p => (valV ls p.1).isSome && PyData.eqv (fx p.1) (fy p.1)
def rEqT (K : PySem.W.Frag) (neg : Bool) : R2 := fun x y H Q => ∃ (a b : Addr) (ks ls : List (List Key × V)) (fx fy : List Key → PyData), x = .ref a ∧ y = .ref b ∧ Rd H a (.dT ks) ∧ Rd H b (.dT ls) ∧ (∀ p ∈ ks, Dp K H p.2 (fx p.1) ∧ SeqAt.shaped (fx p.1) = true) ∧
  (∀ p ∈ ls, Dp K H p.2 (fy p.1) ∧ SeqAt.shaped (fy p.1) = true) ∧ Q (.bl (neg ^^ eqB fx fy ks ls)) H
theorem hits_eq {H : Hp} {ks ls : List (List Key × V)} {xs ys : List (List Key × Addr × Value)} (r1 : KT H ks xs) (r2 : KT H ls ys) (fx fy : List Key → PyData) :
    (decide (xs.length = ys.length) && xs.all (hitH (fun k => PyData.eqv (fx k) (fy k)) ys)) = eqB fx fy ks ls := by
  unfold eqB
  rw [← Paired.length r1, ← Paired.length r2]
  congr 1
  have e1 : xs.all (hitH (fun k => PyData.eqv (fx k) (fy k)) ys) = (xs.map (·.1)).all fun k => (valV ls k).isSome && PyData.eqv (fx k) (fy k) := by
    rw [List.all_map]
    congr 1
    funext x
    show ((atKey ys x.1).isSome && _) = ((valV ls x.1).isSome && _)
    rw [(r2.val x.1).isSome_eq, Option.isSome_map]
  rw [e1, KT.keys r1, List.all_map]
  rfl
theorem ats_of {X : Cx} {pins : List (Addr × Obj)} {σ : L2.St} {H : Hp} {s : Shared} (I : L2.Inv X pins σ H s) (hu : X.A.units + 65 < cLine) {ks ls : List (List Key × V)} {xs ys : List (List Key × Addr × Value)} (r1 : KT H ks xs) (r2 : KT H ls ys) {fx fy : List Key → PyData}
    (h1 : ∀ p ∈ ks, Dp X.K H p.2 (fx p.1) ∧ SeqAt.shaped (fx p.1) = true) (h2 : ∀ p ∈ ls, Dp X.K H p.2 (fy p.1) ∧ SeqAt.shaped (fy p.1) = true) : ∀ x ∈ xs, ∀ y ∈ ys, y.1 = x.1 → SeqAt.EqAt X.A.in1 s x.2.2 y.2.2 (PyData.eqv (fx x.1) (fy x.1)) := by
  intro x hx y hy e
  obtain ⟨v, m1, _, e1⟩ := KT.all r1 x hx
  obtain ⟨u, m2, _, e2⟩ := KT.all r2 y hy
  obtain ⟨d1, s1⟩ := h1 _ m1
  obtain ⟨d2, s2⟩ := h2 _ m2
  dsimp only at d1 d2 s1 s2
  rw [e] at d2 s2
  obtain ⟨as, q1⟩ := Dp.reads I _ _ _ d1 e1
  obtain ⟨bs, q2⟩ := Dp.reads I _ _ _ d2 e2
  exact PySem.W.keq_at q1 q2 s1 s2 (show X.A.units + 1 + 64 < cLine by omega)
theorem op_eqT {X : Cx} (hu : X.A.units + 65 < cLine) : OpR X (compareOp .Eq) (rEqT X.K false) := by
  intro pins s σ H x y v u Q I rx ry ⟨a, b, ks, ls, fx, fy, ex, ey, ha, hb, h1, h2, q⟩
  subst ex ey
  cases rx
  cases ry
  obtain ⟨z1, l1, xs, r1, d1⟩ := dt_rd I.hok ha
  obtain ⟨z2, l2, ys, r2, d2⟩ := dt_rd I.hok hb
  refine eqH (eb := fun k => PyData.eqv (fx k) (fy k)) (by omega) (show X.A.units + 1 < cLine by omega) l1 l2 d1 d2 (ats_of I hu r1 r2 h1 h2) ?_
  rw [hits_eq r1 r2]
  rw [Bool.false_xor] at q
  exact ⟨.bl _, H, I, rfl, q⟩
theorem op_neT {X : Cx} (hu : X.A.units + 65 < cLine) : OpR X (compareOp .NotEq) (rEqT X.K true) := by
  intro pins s σ H x y v u Q I rx ry ⟨a, b, ks, ls, fx, fy, ex, ey, ha, hb, h1, h2, q⟩
  subst ex ey
  cases rx
  cases ry
  obtain ⟨z1, l1, xs, r1, d1⟩ := dt_rd I.hok ha
  obtain ⟨z2, l2, ys, r2, d2⟩ := dt_rd I.hok hb
  refine neH (eb := fun k => PyData.eqv (fx k) (fy k)) (by omega) (show X.A.units + 1 < cLine by omega) l1 l2 d1 d2 (ats_of I hu r1 r2 h1 h2) ?_
  rw [hits_eq r1 r2]
  rw [Bool.true_xor] at q
  exact ⟨.bl _, H, I, rfl, q⟩
end G3
/-! G3dr: repr(x), x a dict by tuples -/
namespace G3
open PySem PySem.Spec PyProof.Rows L2
mutual
/-- data without lists and dicts -/
def nlP : PyData → Bool
  | .list _ | .dict _ => false
  | .tuple xs => nlPs xs
  | _ => true
def nlPs : List PyData → Bool
  | [] => true
  | x :: xs => nlP x && nlPs xs
end
mutual
theorem reads_nl {h : Heap} : ∀ {v : Value} {d : PyData} {as : List Addr}, Reads h v d as → nlP d = true → as = []
  | _, _, _, .none, _ => rfl
  | _, _, _, .bool _, _ => rfl
  | _, _, _, .int _ _, _ => rfl
  | _, _, _, .str _ _, _ => rfl
  | _, _, _, .list _ _ _ _, n => by simp [nlP] at n
  | _, _, _, .tuple _ _ _ r, n => reads_nls r (by simpa [nlP] using n)
  | _, _, _, .dict _ _ _ _ _, n => by simp [nlP] at n
theorem reads_nls {h : Heap} : ∀ {vs : List Value} {ds : List PyData} {as : List Addr}, ReadsAll h vs ds as → nlPs ds = true → as = []
  | _, _, _, .nil, _ => rfl
  | _, _, _, .cons r t, n => by
    simp only [nlPs, Bool.and_eq_true] at n
    rw [reads_nl r n.1, reads_nls t n.2]; rfl
end
def keyP : Key → PyData
  | .inl i => .int i
  | .inr x => .str x
theorem nl_keys : ∀ k : List Key, nlPs (k.map keyP) = true
  | [] => rfl
  | .inl _ :: k => by simp [nlPs, nlP, keyP, nl_keys k]
  | .inr _ :: k => by simp [nlPs, nlP, keyP, nl_keys k]
theorem dp_keys {K : PySem.W.Frag} {H : Hp} : ∀ k : List Key, DpAll K H (k.map kV) (k.map keyP)
  | [] => .nil
  | .inl i :: k => .cons (.int i) (dp_keys k)
  | .inr x :: k => .cons (.str x) (dp_keys k)
/-- what is shown of a dict by tuples -/
def pdT (f : List Key → PyData) (ks : List (List Key)) : PyData := .dict (ks.map fun k => (.tuple (k.map keyP), f k))
def rReprT (K : PySem.W.Frag) : List V → Hp → VK → Prop := fun xs H Q => ∃ (a : Addr) (kvs : List (List Key × V)) (f : List Key → PyData), xs = [.ref a] ∧ Rd H a (.dT kvs) ∧ (∀ p ∈ kvs, Dp K H p.2 (f p.1) ∧ nlP (f p.1) = true) ∧
  (pdT f (kvs.map (·.1))).depth ≤ 60 ∧ (pdT f (kvs.map (·.1))).showable = true ∧ (pdT f (kvs.map (·.1))).shown.length ≤ sizeLine ∧ Q (.str (pdT f (kvs.map (·.1))).shown) H
theorem reads_kt {X : Cx} {pins : List (Addr × Obj)} {σ : L2.St} {H : Hp} {s : Shared} (I : L2.Inv X pins σ H s) {f : List Key → PyData} : ∀ {kvs : List (List Key × V)} {xs : List (List Key × Addr × Value)}, KT H kvs xs → (∀ p ∈ kvs, Dp X.K H p.2 (f p.1) ∧ nlP (f p.1) = true) →
    ReadsAll s.heap (xs.map fun x => Value.ref x.2.1) ((kvs.map (·.1)).map fun k => PyData.tuple (k.map keyP)) [] ∧ ReadsAll s.heap (xs.map fun x => x.2.2) ((kvs.map (·.1)).map f) []
  | _, _, .nil, _ => ⟨.nil, .nil⟩
  | _, _, .cons (a := p) (b := q) h t, hd => by
    obtain ⟨r1, r2⟩ := reads_kt I t fun p m => hd p (List.mem_cons_of_mem _ m)
    obtain ⟨d1, n1⟩ := hd p List.mem_cons_self
    obtain ⟨as, q1⟩ := Dp.reads I _ _ _ (Dp.tup (.inl (.inl h.2.1)) (dp_keys p.1)) (show L2.RelV (.ref q.2.1) (.ref q.2.1) from rfl)
    obtain ⟨bs, q2⟩ := Dp.reads I _ _ _ d1 h.2.2
    have e1 := reads_nl q1 (by simp [nlP, nl_keys])
    have e2 := reads_nl q2 n1
    subst e1 e2
    exact ⟨.cons q1 r1, .cons q2 r2⟩
theorem call_reprT {X : Cx} (gu : X.A.guards = some []) (hu : X.A.units + 70 < cLine) : CallR X (.builtin "repr") (rReprT X.K) := by
  intro pins s σ H vs us Q I r ⟨a, kvs, f, ex, ha, hd, h60, hs, hz, q⟩
  subst ex
  obtain ⟨u, eu, ru⟩ := vals1 r
  subst eu
  cases ru
  obtain ⟨z, lo, xs, rel, o, es, ep, g1, g2, g3, g4, g5, g6⟩ := dt_rd I.hok ha
  obtain ⟨r1, r2⟩ := reads_kt I rel hd
  have hr : Reads s.heap (.ref a) (pdT f (kvs.map (·.1))) ([a] ++ []) := by
    refine Reads.dict (as := []) (bs := []) g1 g2.1 g3 ?_ ?_
    · have e : (es.toList.map fun e => e.key) = xs.map fun x => Value.ref x.2.1 := by rw [g4, List.map_map]; exact List.map_congr_left fun _ _ => rfl
      rw [e, List.map_map]; exact r1
    · have e : (es.toList.map fun e => e.val) = xs.map fun x => x.2.2 := by rw [g4, List.map_map]; exact List.map_congr_left fun _ _ => rfl
      rw [e, List.map_map]; exact r2
  generalize pdT f (kvs.map (·.1)) = d at *
  refine repr_of_reads' hr hs (fun _ m => ?_) gu (by omega) (fun _ _ e => e) (fun h' t tk hk => ?_) hz
  · have e : sysModules = a := by simpa using m
    rw [← e] at lo
    simp at lo
  · exact ⟨.str d.shown, H, I.kept hk, ⟨_, rfl⟩, q⟩
end G3
/-! G3du: dicts by tuples over D: compared, looked into while locked; builtins on them -/
namespace G3
open PySem PySem.Spec PyProof.Rows L2
section
variable {κ : Type} [DecidableEq κ] {K : PySem.W.Frag} {H : Hp} {g : GH}
theorem DRep.mem {r : List (κ × V)} {s : List (κ × D)} (h : DRep K H g r s) : ∀ p ∈ r, ∃ d, (p.1, d) ∈ s ∧ Rep K H g p.2 d := by
  induction h with
  | nil => intro p m; cases m
  | cons q t ih =>
    intro p m
    rcases List.mem_cons.mp m with rfl | m
    · exact ⟨_, List.mem_cons_self, q⟩
    · obtain ⟨d, h1, h2⟩ := ih p m
      exact ⟨d, List.mem_cons_of_mem _ h1, h2⟩
def dropD (kvs : List (κ × D)) (k : κ) : List (κ × D) := kvs.filter fun p => decide (p.1 ≠ k)
theorem DRep.drop {r : List (κ × V)} {s : List (κ × D)} (h : DRep K H g r s) (k : κ) : DRep K H g (dropK r k) (dropD s k) := by
  unfold dropK dropD
  induction h with
  | nil => exact .nil
  | @cons c v d r s q t ih =>
    rw [List.filter_cons, List.filter_cons]
    split
    · exact .cons q ih
    · exact ih
theorem lookD_mem {s : List (κ × D)} (hn : (s.map (·.1)).Nodup) {k : κ} {d : D} (m : (k, d) ∈ s) : lookD s k = some d := by
  unfold lookD
  induction s with
  | nil => cases m
  | cons p s ih =>
    rw [List.map_cons, List.nodup_cons] at hn
    rw [List.find?_cons]
    rcases List.mem_cons.mp m with rfl | m
    · simp
    · have ne : p.1 ≠ k := fun e => hn.1 (List.mem_map.mpr ⟨_, m, e.symm⟩)
      rw [decide_eq_false ne]
      exact ih hn.2 m
end
def mergeD (kvs more : List (List Key × D)) : List (List Key × D) := more.foldl (fun acc p => putD acc p.1 p.2) kvs
theorem DRep.merge {K : PySem.W.Frag} {H : Hp} {g : GH} : ∀ {m : List (List Key × V)} {n : List (List Key × D)} {r : List (List Key × V)} {s : List (List Key × D)}, DRep K H g m n → DRep K H g r s → DRep K H g (mergeT r m) (mergeD s n)
  | _, _, _, _, .nil, h => h
  | _, _, r, s, .cons (k := k) q t, h => by
    have := DRep.merge t (h.put k q)
    exact this
/-- what the values of a dict show, by the keys -/
def fOf (kvs : List (List Key × D)) (k : List Key) : PyData := ((lookD kvs k).map pd).getD .none
def dtEq (ks ls : List (List Key × D)) : Bool := decide (ks.length = ls.length) && ks.all fun p => (lookD ls p.1).isSome && PyData.eqv (fOf ks p.1) (fOf ls p.1)
/-- a dict by tuples, locked or not -/
def dtAt (g : GH) (a : Addr) (kvs : List (List Key × D)) : Prop := g a = some (.dt kvs) ∨ ∃ od r, g a = some (.dl od r kvs)
theorem dtAt.rd {K : PySem.W.Frag} {B : List Addr} {H : Hp} {g : GH} {a : Addr} {kvs : List (List Key × D)} (w : Vw K B H g) (h : dtAt g a kvs) : ∃ vs, Rd H a (.dT vs) ∧ DRep K (hide H B) g vs kvs := by
  rcases h with h | ⟨od, r, h⟩
  · obtain ⟨vs, hp, rv⟩ := trk_dt w h
    exact ⟨vs, .inl hp, rv⟩
  · obtain ⟨hp, rv⟩ := trk_dl w h
    exact ⟨r, .inr ⟨od, hp⟩, rv⟩
/-- each key once -/
def kNd (kvs : List (List Key × D)) : Prop := (kvs.map (·.1)).Nodup
theorem dps {K : PySem.W.Frag} {B : List Addr} {H : Hp} {g : GH} {vs : List (List Key × V)} {kvs : List (List Key × D)} (w : Vw K B H g) (rv : DRep K (hide H B) g vs kvs) (hn : kNd kvs) (ho : ∀ p ∈ kvs, okD 64 p.2 = true) :
    ∀ p ∈ vs, Dp K H p.2 (fOf kvs p.1) ∧ SeqAt.shaped (fOf kvs p.1) = true := fun p m => by
  obtain ⟨d, m2, r⟩ := rv.mem p m
  have ok := ho _ m2
  have e : fOf kvs p.1 = pd d := by unfold fOf; rw [lookD_mem hn m2]; rfl
  rw [e]
  refine ⟨?_, okD_shaped ok⟩
  have rr : resR g (.v d) d := by
    cases d with
    | ref a => simp [okD] at ok
    | _ => rfl
  exact resR.dp (r := .v d) w.un r.un rr ok
def fDEq (neg : Bool) : R → R → GH → QK → Prop := fun x y g Q => match x, y with
  | .v (.ref a), .v (.ref b) => ∃ ks ls, dtAt g a ks ∧ dtAt g b ls ∧ kNd ks ∧ kNd ls ∧ (∀ p ∈ ks, okD 64 p.2 = true) ∧ (∀ p ∈ ls, okD 64 p.2 = true) ∧ Q (.v (.bl (neg ^^ dtEq ks ls))) g
  | _, _ => False
theorem eqB_eq {K : PySem.W.Frag} {H : Hp} {g : GH} {vs us : List (List Key × V)} {ks ls : List (List Key × D)} (r1 : DRep K H g vs ks) (r2 : DRep K H g us ls) : eqB (fOf ks) (fOf ls) vs us = dtEq ks ls := by
  unfold eqB dtEq
  rw [r1.len, r2.len]
  congr 1
  have e1 : (vs.all fun p => (valV us p.1).isSome && PyData.eqv (fOf ks p.1) (fOf ls p.1)) = (vs.map (·.1)).all fun k => (lookD ls k).isSome && PyData.eqv (fOf ks k) (fOf ls k) := by
    rw [List.all_map]
    congr 1
    funext p
    show ((valV us p.1).isSome && _) = ((lookD ls p.1).isSome && _)
    rcases r2.look p.1 with ⟨a, b⟩ | ⟨_, _, a, b, _⟩
    · rw [a, b]; rfl
    · rw [a, b]; rfl
  rw [e1, r1.keys, List.all_map]
  rfl
theorem ok_dEq {K : PySem.W.Frag} {neg : Bool} : R2Ok K (fDEq neg) (rEqT K neg) := fun x y d e B H g Q0 Q rx ry w q c => by
  unfold fDEq at q
  split at q
  · obtain ⟨ks, ls, h1, h2, n1, n2, o1, o2, q⟩ := q
    cases rx
    cases ry
    obtain ⟨vs, p1, r1⟩ := h1.rd w
    obtain ⟨us, p2, r2⟩ := h2.rd w
    exact ⟨_, _, vs, us, fOf ks, fOf ls, rfl, rfl, p1, p2, dps w r1 n1 o1, dps w r2 n2 o2, c.here (by rw [eqB_eq r1 r2]; exact q) (.bl _) w⟩
  · exact q.elim
/-- a key in a dict that may be locked -/
def fDInL (neg : Bool) : R → R → GH → QK → Prop := fun x y g Q => match y with
  | .v (.ref a) => ∃ kvs k, dtAt g a kvs ∧ x.fz = .tup (k.map .int) ∧ Q (.v (.bl (neg ^^ (lookD kvs (tK k)).isSome))) g
  | _ => False
theorem ok_dInL {K : PySem.W.Frag} {neg : Bool} : R2Ok K (fDInL neg) (rDIn neg) := fun x y d e B H g Q0 Q rx ry w q c => by
  unfold fDInL at q
  split at q
  · rename_i a
    cases ry
    obtain ⟨kvs, k, hg, hk, q⟩ := q
    obtain ⟨vs, hp, r⟩ := hg.rd w
    rw [hk] at rx
    obtain ⟨b, rfl, hb⟩ := tKey_rep rx
    refine ⟨a, _, rfl, .inr ⟨vs, tK k, b, hp, rfl, (of_hide hb).1, rfl⟩, ?_⟩
    rcases r.look (tK k) with ⟨e1, e2⟩ | ⟨v, d', e1, e2, _⟩
    · rw [e1]; rw [e2] at q; exact c.here q (.bl _) w
    · rw [e1]; rw [e2] at q; exact c.here q (.bl _) w
  · exact q.elim
/-- d[k] of a dict that may be locked -/
def fDIxA : R → R → GH → QK → Prop := fun x y g Q => match x with
  | .v (.ref a) => ∃ kvs k d, dtAt g a kvs ∧ y.fz = .tup (k.map .int) ∧ lookD kvs (tK k) = some d ∧ Q (.v d) g
  | _ => False
theorem ok_dIxA {K : PySem.W.Frag} : R2Ok K fDIxA rDIx := fun x y d e B H g Q0 Q rx ry w q c => by
  unfold fDIxA at q
  split at q
  · rename_i a
    cases rx
    obtain ⟨kvs, k, z, hg, hk, hl, q⟩ := q
    obtain ⟨vs, hp, r⟩ := hg.rd w
    rw [hk] at ry
    obtain ⟨b, rfl, hb⟩ := tKey_rep ry
    rcases r.look (tK k) with ⟨e1, e2⟩ | ⟨v, d', e1, e2, r'⟩
    · rw [hl] at e2; cases e2
    · rw [hl] at e2; cases e2
      exact ⟨a, v, rfl, e1 ▸ .inr ⟨_, _, b, hp, rfl, (of_hide hb).1, rfl⟩, c.here q r' w⟩
  · exact q.elim
end G3
/-! G3: tables of operators and built-ins -/
namespace G3
open PySem L2

/-! ### implications -/
theorem bin_imp {K : PySem.W.Frag} {E : L2.St → XK} {f : R → R → GH → QK → Prop} {r : R2} {ta tb : TD} (hr : R2Ok K f r) {σ : L2.St} {H : Hp} {Q : VK} (h : LE K E (wBin f ta tb) σ H Q) : tOp r (LE K E ta) (LE K E tb) σ H Q := by
  obtain ⟨B, ρ, g, Q0, W0, rs, rg, t, c, xc⟩ := h
  exact ⟨B, ρ, g, _, W0, rs, rg, t, fun d g1 x H1 hb rd rg1 f1 _ => ⟨B, ρ, g1, _, W0, rs.fv rg f1, rg1, hb, fun e g2 y H2 hf re rg2 f2 _ => hr x y d e B H2 g2 Q0 Q (rd.fv rg1 f2) re rg2 hf (c.after (f1.trans f2)), xc.after f1⟩, xc⟩
theorem test_imp {K : PySem.W.Frag} {E : L2.St → XK} {t : TD} {t' : TE} (i : ∀ σ H Q, LE K E t σ H Q → t' σ H Q) {σ : L2.St} {H : Hp} {Q : Bool → Hp → Prop} (h : LT K E (wTest t) σ H Q) : t' σ H fun x H' => ∃ k, x = .bl k ∧ Q k H' := by
  obtain ⟨B, ρ, g, Q0, W0, rs, rg, t, c, xc⟩ := h
  refine i _ _ _ ⟨B, ρ, g, _, W0, rs, rg, t, fun d g1 x H1 hb rd rg1 f1 _ => ?_, xc⟩
  match d, rd, hb with
  | .v (.bl b), rd, hb => exact ⟨b, bl_of rd, c b g1 H1 hb rg1 f1⟩
  | .v .non, _, hb | .v (.int _), _, hb | .v (.str _), _, hb | .v (.ty _), _, hb | .v (.ref _), _, hb | .v (.tup _), _, hb | .v (.lst _), _, hb | .v (.rl _), _, hb | .tl _, _, hb => exact hb.elim
/-- a < b < c -/
def wCh (f f' : R → R → GH → QK → Prop) (ta tb tc : TD) : TD := fun ρ g Q W => ta ρ g (fun x g1 => tb ρ g1 (fun y g2 => f x y g2 fun z g3 => match z with
  | .v (.bl k) => if k = true then tc ρ g3 (fun z' g4 => f' (.v y.fz) z' g4 Q) W else Q (.v (.bl false)) g3
  | _ => False) W) W

/-! ### tables -/
/-- a list so many times -/
def fRepL : R → R → GH → QK → Prop := fun x y g Q => match y with
  | .v (.int k) => ∃ a, lstOf g x a ∧ -(2 ^ 63) ≤ k ∧ k < 2 ^ 63 ∧ a.length * k.toNat ≤ sizeLine ∧ Q (.tl (List.replicate k.toNat a).flatten) g
  | _ => False
theorem ok_repL {K : PySem.W.Frag} : R2Ok K fRepL rRep := fun x y d e B H g Q0 Q rx ry rg q c => by
  unfold fRepL at q
  split at q
  · obtain ⟨a, ha, h1, h2, hz, q⟩ := q
    obtain ⟨p, vs, rfl, hp, r1⟩ := ha.rep rg.rg rx
    exact ⟨p, _, vs, rfl, int_of ry, (of_hide hp).1, h1, h2, by rw [r1.length]; exact hz, fun p3 h3 => c.newL q (r1.flat _) rg p3 h3⟩
  · exact q.elim
/-- is, is not, of truths -/
def fB2 (h : Bool → Bool → D) : R → R → GH → QK → Prop := fun x y g Q => match x, y with
  | .v (.bl i), .v (.bl j) => Q (.v (h i j)) g
  | _, _ => False
theorem ok_isB {K : PySem.W.Frag} : R2Ok K (fB2 fun i j => .bl (decide (i = j))) rIsB := fun x y d e B H g Q0 Q rx ry rg q c => by
  unfold fB2 at q
  split at q
  · exact ⟨_, _, bl_of rx, bl_of ry, c.here q (.bl _) rg⟩
  · exact q.elim
theorem ok_notB {K : PySem.W.Frag} : R2Ok K (fB2 fun i j => .bl (!decide (i = j))) rNotB := fun x y d e B H g Q0 Q rx ry rg q c => by
  unfold fB2 at q
  split at q
  · exact ⟨_, _, bl_of rx, bl_of ry, c.here q (.bl _) rg⟩
  · exact q.elim
inductive Bop | addI | subI | mulI | modI | fdivI | powI | addS | addT | addL | repT | mulW | addA | repL
def Bop.op : Bop → Operator
  | .addI | .addS | .addT | .addL | .addA => .Add
  | .subI => .Sub
  | .mulI | .repT | .mulW | .repL => .Mult
  | .modI => .Mod
  | .fdivI => .FloorDiv
  | .powI => .Pow
def Bop.f : Bop → R → R → GH → QK → Prop
  | .addI => fI2 (fun _ _ => True) fun i j => .int (i + j)
  | .subI => fI2 (fun _ _ => True) fun i j => .int (i - j)
  | .mulI => fI2 CMul fun i j => .int (i * j)
  | .mulW => fI2 CMulX fun i j => .int (i * j)
  | .modI => fI2 (fun _ j => 0 < j) fun i j => .int (i % j)
  | .fdivI => fI2 CDiv fun i j => .int (i / j)
  | .powI => fI2 CPow fun i j => .int (i ^ j.toNat)
  | .addS => fAddS
  | .addT => fAddT
  | .addL => fAddL
  | .repT => fRepT
  | .addA => fAddA
  | .repL => fRepL
theorem Bop.ok (X : Cx) (b : Bop) : ∃ r, OpR X (binaryOp b.op) r ∧ R2Ok X.K b.f r := by
  cases b with
  | addI => exact ⟨_, op_add, ok_I20 fun _ _ _ _ => .int _⟩
  | subI => exact ⟨_, op_sub, ok_I20 fun _ _ _ _ => .int _⟩
  | mulI => exact ⟨_, op_mul, ok_I2 fun _ _ _ _ => .int _⟩
  | mulW => exact ⟨_, op_mulX, ok_I2 fun _ _ _ _ => .int _⟩
  | modI => exact ⟨_, op_mod, ok_I2 fun _ _ _ _ => .int _⟩
  | fdivI => exact ⟨_, op_fdiv, ok_I2 fun _ _ _ _ => .int _⟩
  | powI => exact ⟨_, op_pow, ok_I2 fun _ _ _ _ => .int _⟩
  | addS => exact ⟨_, op_add_str, ok_addS⟩
  | addT => exact ⟨_, op_catA, ok_addT⟩
  | addL => exact ⟨_, op_cat, ok_addL⟩
  | repT => exact ⟨_, op_repA, ok_repT⟩
  | addA => exact ⟨_, op_addA, ok_addA⟩
  | repL => exact ⟨_, op_rep, ok_repL⟩
/-- two texts -/
def fS2 (h : Str → Str → D) : R → R → GH → QK → Prop := fun x y g Q => match x, y with
  | .v (.str i), .v (.str j) => Q (.v (h i j)) g
  | _, _ => False
def rS2 (h : Str → Str → V) : R2 := fun x y H Q => ∃ i j, x = .str i ∧ y = .str j ∧ Q (h i j) H
theorem ok_S2 {K : PySem.W.Frag} {h : Str → Str → D} {h' : Str → Str → V} (hh : ∀ i j H g, Rep K H g (h' i j) (h i j)) : R2Ok K (fS2 h) (rS2 h') := fun x y d e B H g Q0 Q rx ry rg q c => by
  unfold fS2 at q
  split at q
  · exact ⟨_, _, str_of rx, str_of ry, c.here q (hh _ _ _ g) rg⟩
  · exact q.elim
theorem op_eqS {X : Cx} : OpR X (compareOp .Eq) (rS2 fun i j => .bl (decide (i = j))) := fun pins s σ H x y v u Q I rx ry ⟨i, j, hx, hy, q⟩ =>
  op_eq pins s σ H x y v u Q I rx ry (by subst hx hy; exact ⟨rfl, by rw [show decide (V.str i = V.str j) = decide (i = j) by simp]; exact q⟩)
theorem op_neS {X : Cx} : OpR X (compareOp .NotEq) (rS2 fun i j => .bl (!decide (i = j))) := fun pins s σ H x y v u Q I rx ry ⟨i, j, hx, hy, q⟩ =>
  op_ne pins s σ H x y v u Q I rx ry (by subst hx hy; exact ⟨rfl, by rw [show decide (V.str i = V.str j) = decide (i = j) by simp]; exact q⟩)
/-- one sign in a text -/
def fInT : R → R → GH → QK → Prop := fun x y g Q => match x, y with
  | .v (.str a), .v (.str z) => ∃ c, a = ⟨#[c]⟩ ∧ Q (.v (.bl (decide (c ∈ z.cps.toList)))) g
  | _, _ => False
theorem ok_inT {K : PySem.W.Frag} : R2Ok K fInT rInS := fun x y d e B H g Q0 Q rx ry w q c => by
  unfold fInT at q
  split at q
  · obtain ⟨k, rfl, q⟩ := q
    exact ⟨k, _, str_of rx, str_of ry, c.here q (.bl _) w⟩
  · exact q.elim
inductive Cop | ltI | leI | gtI | geI | eqI | neI | eqS | neS | eqD | neD | isN | notN | inS | ninS | inD | ninD | inA | ninA | isB | notB | inK | ninK | inM | ninM | inT | eqT | neT | inL | ninL
def Cop.op : Cop → CmpOp
  | .ltI => .Lt | .leI => .LtE | .gtI => .Gt | .geI => .GtE
  | .eqI | .eqD | .eqS | .eqT => .Eq | .neI | .neD | .neS | .neT => .NotEq
  | .isN | .isB => .Is | .notN | .notB => .IsNot
  | .inS | .inD | .inA | .inK | .inM | .inT | .inL => .In | .ninS | .ninD | .ninA | .ninK | .ninM | .ninL => .NotIn
def Cop.f : Cop → R → R → GH → QK → Prop
  | .ltI => fI2 (fun _ _ => True) fun i j => .bl (decide (i < j))
  | .leI => fI2 (fun _ _ => True) fun i j => .bl (decide (i ≤ j))
  | .gtI => fI2 (fun _ _ => True) fun i j => .bl (decide (j < i))
  | .geI => fI2 (fun _ _ => True) fun i j => .bl (decide (j ≤ i))
  | .eqI => fI2 (fun _ _ => True) fun i j => .bl (decide (i = j))
  | .neI => fI2 (fun _ _ => True) fun i j => .bl (!decide (i = j))
  | .eqS => fS2 fun i j => .bl (decide (i = j))
  | .neS => fS2 fun i j => .bl (!decide (i = j))
  | .eqD => fEq false
  | .neD => fEq true
  | .isN => fIsN false
  | .notN => fIsN true
  | .inS => fIn false
  | .ninS => fIn true
  | .inD => fInD false
  | .ninD => fInD true
  | .inA => fInA false
  | .inK => fDIn false
  | .ninK => fDIn true
  | .inM => fDInM false
  | .ninM => fDInM true
  | .inT => fInT
  | .eqT => fDEq false
  | .neT => fDEq true
  | .inL => fDInL false
  | .ninL => fDInL true
  | .ninA => fInA true
  | .isB => fB2 fun i j => .bl (decide (i = j))
  | .notB => fB2 fun i j => .bl (!decide (i = j))
theorem op_eqI {X : Cx} : OpR X (compareOp .Eq) (rI0 fun i j => .bl (decide (i = j))) := fun pins s σ H x y v u Q I rx ry ⟨i, j, hx, hy, q⟩ =>
  op_eq pins s σ H x y v u Q I rx ry (by subst hx hy; exact ⟨rfl, by rw [show decide (V.int i = V.int j) = decide (i = j) by simp]; exact q⟩)
theorem op_neI {X : Cx} : OpR X (compareOp .NotEq) (rI0 fun i j => .bl (!decide (i = j))) := fun pins s σ H x y v u Q I rx ry ⟨i, j, hx, hy, q⟩ =>
  op_ne pins s σ H x y v u Q I rx ry (by subst hx hy; exact ⟨rfl, by rw [show decide (V.int i = V.int j) = decide (i = j) by simp]; exact q⟩)
theorem Cop.ok (X : Cx) (hu : X.A.units + 65 < cLine) (b : Cop) : ∃ r, OpR X (compareOp b.op) r ∧ R2Ok X.K b.f r := by
  cases b with
  | ltI => exact ⟨_, op_lt, ok_I20 fun _ _ _ _ => .bl _⟩
  | leI => exact ⟨_, op_le, ok_I20 fun _ _ _ _ => .bl _⟩
  | gtI => exact ⟨_, op_gt, ok_I20 fun _ _ _ _ => .bl _⟩
  | geI => exact ⟨_, op_ge, ok_I20 fun _ _ _ _ => .bl _⟩
  | eqI => exact ⟨_, op_eqI, ok_I20 fun _ _ _ _ => .bl _⟩
  | neI => exact ⟨_, op_neI, ok_I20 fun _ _ _ _ => .bl _⟩
  | eqS => exact ⟨_, op_eqS, ok_S2 fun _ _ _ _ => .bl _⟩
  | neS => exact ⟨_, op_neS, ok_S2 fun _ _ _ _ => .bl _⟩
  | eqD => exact ⟨_, op_eqD (by omega), ok_eq⟩
  | neD => exact ⟨_, op_neD (by omega), ok_ne⟩
  | isN => exact ⟨_, op_isN, ok_isN⟩
  | notN => exact ⟨_, op_notN, ok_notN⟩
  | inS => exact ⟨_, op_in_seq, ok_in⟩
  | ninS => exact ⟨_, op_notIn_seq, ok_in⟩
  | inD => exact ⟨_, op_inD hu, ok_inD⟩
  | ninD => exact ⟨_, op_notInD hu, ok_notInD⟩
  | inA => exact ⟨_, op_inA hu, ok_inA⟩
  | ninA => exact ⟨_, op_ninA hu, ok_inA⟩
  | isB => exact ⟨_, op_isBl, ok_isB⟩
  | inK => exact ⟨_, op_dIn (by omega), ok_dIn⟩
  | ninK => exact ⟨_, op_dNin (by omega), ok_dIn⟩
  | inM => exact ⟨_, op_dIn (by omega), ok_dInM⟩
  | ninM => exact ⟨_, op_dNin (by omega), ok_dInM⟩
  | inT => exact ⟨_, op_inS, ok_inT⟩
  | eqT => exact ⟨_, op_eqT hu, ok_dEq⟩
  | neT => exact ⟨_, op_neT hu, ok_dEq⟩
  | inL => exact ⟨_, op_dIn (by omega), ok_dInL⟩
  | ninL => exact ⟨_, op_dNin (by omega), ok_dInL⟩
  | notB => exact ⟨_, op_notBl, ok_notB⟩
inductive Iop | l | t | s | any | d | m | dl | da
def Iop.f : Iop → R → R → GH → QK → Prop
  | .l => fIx lstOf
  | .t => fIx fun _ => tupOf
  | .s => fIxS
  | .any => fIxA
  | .d => fDIx
  | .m => fDIxM
  | .dl => fDIxL
  | .da => fDIxA
theorem Iop.ok (X : Cx) (hu : X.A.units + 65 < cLine) (b : Iop) : ∃ r, IxR X r ∧ R2Ok X.K b.f r := by
  cases b with
  | l => exact ⟨_, ix_list, ok_ixL⟩
  | t => exact ⟨_, ix_tup, ok_ixT⟩
  | s => exact ⟨_, ix_str, ok_ixS⟩
  | any => exact ⟨_, ix_any, ok_ixA⟩
  | d => exact ⟨_, ix_dict (by omega), ok_dIx⟩
  | m => exact ⟨_, ix_dict (by omega), ok_dIxM⟩
  | dl => exact ⟨_, ix_dict (by omega), ok_dIxL⟩
  | da => exact ⟨_, ix_dict (by omega), ok_dIxA⟩
/-- slices -/
inductive Sop | l | t | s | any
def fSl : Sop → R → Option Int → Option Int → GH → QK → Prop
  | .l => fun x lo hi g Q => ∃ a, (lstOf g x a ∨ rolOf x a) ∧ Q (.tl (cutD a lo hi)) g
  | .t => fun x lo hi g Q => ∃ a, tupOf x a ∧ Q (.v (.tup (cutD a lo hi))) g
  | .s => fun x lo hi g Q => match x with
    | .v (.str z) => z.length ≤ sizeLine ∧ Q (.v (.str (cutS z lo hi))) g
    | _ => False
  | .any => fSlA
theorem Reps.cut {K : PySem.W.Frag} {H : Hp} {g : GH} {vs : List V} {ds : List D} (r : Reps K H g vs ds) (lo hi : Option Int) : Reps K H g (cutV vs lo hi) (cutD ds lo hi) := by
  unfold cutV cutD
  rw [r.length]
  exact (r.drop _).take _
def RSOk (K : PySem.W.Frag) (f : R → Option Int → Option Int → GH → QK → Prop) (r : V → Option Int → Option Int → Hp → VK → Prop) : Prop :=
  ∀ x (d : R) lo hi B H g Q0 Q, Rep K (hide H B) g x d.fz → Vw K B H g → f d lo hi g Q0 → Cont K B H g Q0 Q → r x lo hi H Q
theorem cutAll {α : Type} {xs : List α} {lo hi : Option Int} (h : HT.sIx xs.length 0 lo = 0 ∧ HT.sIx xs.length xs.length hi = xs.length) : cutD xs lo hi = xs := by
  unfold cutD
  rw [h.1, h.2, List.drop_zero, Nat.sub_zero, List.take_length]
theorem Sop.ok1 (X : Cx) (b : Sop) (hb : b ≠ .any) : ∃ r, SlR X r ∧ RSOk X.K (fSl b) r := by
  cases b with
  | any => exact absurd rfl hb
  | l => exact ⟨_, sl_list, fun x d lo hi B H g Q0 Q rx w ⟨a, ha, q⟩ c => by
      rcases ha with ha | ha
      · obtain ⟨p, vs, rfl, hp, r1⟩ := ha.rep w.rg rx
        exact ⟨p, vs, rfl, .inl (.inl (of_hide hp).1), fun p2 h2 => c.newL q (r1.cut lo hi) w p2 h2⟩
      · obtain ⟨p, vs, rfl, hp, r1⟩ := ha.rep rx
        refine ⟨p, vs, rfl, ?_, fun p2 h2 => c.newL q (r1.cut lo hi) w p2 h2⟩
        rcases hp with (h | ⟨o, h⟩) | h
        · exact .inl (.inl (of_hide h).1)
        · exact .inl (.inr ⟨o, (of_hide h).1⟩)
        · exact .inr h⟩
  | t => exact ⟨_, sl_tupA, fun x d lo hi B H g Q0 Q rx w ⟨a, ha, q⟩ c => by
      obtain ⟨p, vs, rfl, hp, r1⟩ := ha.repH rx
      refine ⟨p, vs, rfl, .inl (.inl (of_hide hp).1), fun e => ?_, fun _ p2 h2 => c.newT q (r1.cut lo hi) w p2 h2⟩
      rw [r1.length] at e
      rw [cutAll e] at q
      exact c.here q (.tup hp r1) w⟩
  | s => exact ⟨_, sl_str, fun x d lo hi B H g Q0 Q rx w q c => by
      unfold fSl at q
      dsimp only at q
      split at q
      · exact ⟨_, str_of rx, q.1, c.here q.2 (.str _) w⟩
      · exact q.elim⟩

theorem Sop.ok (X : Cx) (b : Sop) : ∃ r, SlR X r ∧ RSOk X.K (fSl b) r := by
  by_cases hb : b = .any
  · subst hb
    obtain ⟨r1, h1, o1⟩ := Sop.ok1 X .l (by simp)
    obtain ⟨r2, h2, o2⟩ := Sop.ok1 X .t (by simp)
    obtain ⟨r3, h3, o3⟩ := Sop.ok1 X .s (by simp)
    refine ⟨_, SlR.or h1 (SlR.or h2 h3), fun x d lo hi B H g Q0 Q rx w q c => ?_⟩
    match d, rx, q with
    | .tl a, rx, q => exact .inl (o1 x (.tl a) lo hi B H g Q0 Q rx w ⟨a, .inl rfl, q⟩ c)
    | .v (.lst a), rx, q => exact .inl (o1 x (.v (.lst a)) lo hi B H g Q0 Q rx w ⟨a, .inl rfl, q⟩ c)
    | .v (.rl a), rx, q => exact .inl (o1 x (.v (.rl a)) lo hi B H g Q0 Q rx w ⟨a, .inr rfl, q⟩ c)
    | .v (.ref p), rx, ⟨a, hp, q⟩ => exact .inl (o1 x (.v (.ref p)) lo hi B H g Q0 Q rx w ⟨a, .inl hp, q⟩ c)
    | .v (.tup a), rx, q => exact .inr (.inl (o2 x (.v (.tup a)) lo hi B H g Q0 Q rx w ⟨a, rfl, q⟩ c))
    | .v (.str z), rx, q => exact .inr (.inr (o3 x (.v (.str z)) lo hi B H g Q0 Q rx w q c))
  · exact Sop.ok1 X b hb

/-! ### built-ins by name: of their arguments -/
theorem Reps.bl_inv {K : PySem.W.Frag} {H : Hp} {g : GH} : ∀ {bs : List Bool} {vs : List V}, Reps K H g vs (bs.map .bl) → vs = bs.map V.bl
  | [], _, .nil => rfl
  | b :: bs, _, .cons r t => by rw [bl_of r, Reps.bl_inv t]; rfl
theorem Reps.int_inv {K : PySem.W.Frag} {H : Hp} {g : GH} : ∀ {bs : List Int} {vs : List V}, Reps K H g vs (bs.map .int) → vs = bs.map V.int
  | [], _, .nil => rfl
  | b :: bs, _, .cons r t => by rw [int_of r, Reps.int_inv t]; rfl
theorem Reps.str_inv {K : PySem.W.Frag} {H : Hp} {g : GH} : ∀ {bs : List Str} {vs : List V}, Reps K H g vs (bs.map .str) → vs = bs.map V.str
  | [], _, .nil => rfl
  | b :: bs, _, .cons r t => by rw [str_of r, Reps.str_inv t]; rfl
theorem Reps.ints {K : PySem.W.Frag} {H : Hp} {g : GH} : ∀ (bs : List Int), Reps K H g (bs.map V.int) (bs.map .int)
  | [] => .nil
  | b :: bs => .cons (.int b) (Reps.ints bs)
theorem Reps.strs {K : PySem.W.Frag} {H : Hp} {g : GH} : ∀ (bs : List Str), Reps K H g (bs.map V.str) (bs.map .str)
  | [] => .nil
  | b :: bs => .cons (.str b) (Reps.strs bs)
def ins (n : Int) : List Int → List Int
  | [] => [n]
  | m :: ms => if n ≤ m then n :: m :: ms else m :: ins n ms
/-- sorted -/
def isort : List Int → List Int
  | [] => []
  | n :: ns => ins n (isort ns)
theorem ins_perm (n : Int) : ∀ ms : List Int, (ins n ms).Perm (n :: ms)
  | [] => .refl _
  | m :: ms => by
    unfold ins
    split
    · exact .refl _
    · exact ((ins_perm n ms).cons m).trans (.swap n m ms)
theorem isort_perm : ∀ ns : List Int, (isort ns).Perm ns
  | [] => .refl _
  | n :: ns => (ins_perm n _).trans ((isort_perm ns).cons n)
theorem ins_sorted {n : Int} : ∀ {ms : List Int}, ms.Pairwise (· ≤ ·) → (ins n ms).Pairwise (· ≤ ·)
  | [], _ => List.pairwise_singleton _ _
  | m :: ms, h => by
    rw [List.pairwise_cons] at h
    unfold ins
    split
    · rename_i hn
      refine List.pairwise_cons.mpr ⟨fun a ha => ?_, List.pairwise_cons.mpr h⟩
      rcases List.mem_cons.mp ha with e | ha
      · rw [e]; exact hn
      · exact Int.le_trans hn (h.1 a ha)
    · rename_i hn
      refine List.pairwise_cons.mpr ⟨fun a ha => ?_, ins_sorted h.2⟩
      rcases List.mem_cons.mp ((ins_perm n ms).mem_iff.mp ha) with e | ha
      · rw [e]; omega
      · exact h.1 a ha
theorem isort_sorted : ∀ ns : List Int, (isort ns).Pairwise (· ≤ ·)
  | [] => .nil
  | n :: ns => ins_sorted (isort_sorted ns)
theorem sorted_uniq : ∀ {l l' : List Int}, l.Perm l' → l.Pairwise (· ≤ ·) → l'.Pairwise (· ≤ ·) → l = l'
  | [], l', p, _, _ => (List.Perm.nil_eq p)
  | a :: l, [], p, _, _ => by simpa using p.length_eq
  | a :: l, b :: l', p, h, h' => by
    rw [List.pairwise_cons] at h h'
    have e : a = b := by
      have h1 : b ∈ a :: l := p.mem_iff.mpr List.mem_cons_self
      have h2 : a ∈ b :: l' := p.mem_iff.mp List.mem_cons_self
      rcases List.mem_cons.mp h1 with e | h1
      · exact e.symm
      · rcases List.mem_cons.mp h2 with e | h2
        · exact e
        · exact Int.le_antisymm (h.1 b h1) (h'.1 a h2)
    subst e
    rw [sorted_uniq (p.cons_inv) h.2 h'.2]
/-- the kind of a value -/
def tyN (g : GH) : D → String → Prop
  | .non, n => n = "NoneType"
  | .bl _, n => n = "bool"
  | .int _, n => n = "int"
  | .str _, n => n = "str"
  | .tup _, n => n = "tuple"
  | .lst _, n => n = "list"
  | .ref a, n => (∃ xs, g a = some (.lst xs) ∧ n = "list") ∨ (∃ kvs, g a = some (.dk kvs) ∧ n = "dict") ∨ ∃ kvs, g a = some (.dt kvs) ∧ n = "dict"
  | .ty _, _ => False
  | .rl _, n => n = "list"
  | .gl _, _ => False
  | .exc _ _, _ => False
theorem tyN.ok {K : PySem.W.Frag} {B : List Addr} {H : Hp} {g : GH} {v : V} {d : D} {n : String} (w : Vw K B H g) (r : Rep K (hide H B) g v d) (h : tyN g d n) : TyX K H v (.type n) := by
  cases r with
  | non => cases h; exact .base .non
  | bl b => cases h; exact .base (.bl _)
  | int i => cases h; exact .base (.int _)
  | str x => cases h; exact .base (.str _)
  | ty n => exact h.elim
  | gl _ => exact h.elim
  | exc0 _ _ _ => exact h.elim
  | exc1 _ _ _ _ _ => exact h.elim
  | tup hs r =>
    cases h
    exact .base (.tup (of_hide hs).1)
  | lst hs _ r => cases h; exact .base (.lst (of_hide hs).1)
  | rl hs r =>
    cases h
    rcases hs with ⟨o, h⟩ | ⟨o, its, m, h, hc, _⟩
    · exact .base (.frz (of_hide h).1)
    · exact .kList h hc
  | ref a =>
    rcases h with ⟨xs, h, rfl⟩ | ⟨kvs, h, rfl⟩ | ⟨kvs, h, rfl⟩
    · obtain ⟨u, hu, r⟩ := w.rg a _ h
      cases r with
      | lst r => exact .base (.lst (of_hide hu).1)
    · obtain ⟨u, hu, r⟩ := w.rg a _ h
      cases r with
      | dK r => exact .base (.dK (of_hide hu).1)
    · obtain ⟨u, hu, r⟩ := w.rg a _ h
      cases r with
      | dT r => exact .base (.dT (of_hide hu).1)
/-- T ⊆ of the built-in kinds -/
def isiB (t c : String) : Bool := t == c || (t == "bool" && c == "int")
def kinds : List String := ["NoneType", "bool", "int", "str", "tuple", "list", "dict"]
theorem isiB_ok (K : PySem.W.Frag) : ∀ t ∈ kinds, ∀ c ∈ kinds, PySem.W.kitOne K (.type t) (.type c) = some (isiB t c) := by
  intro t ht c hc
  refine kit_ty ?_
  have : ∀ t ∈ kinds, ∀ c ∈ kinds, kitB t c = some (isiB t c) := by decide +kernel
  exact this t ht c hc
/-- repr of data -/
def rRepr (K : PySem.W.Frag) : List V → Hp → VK → Prop := fun vs H Q => ∃ v d, vs = [v] ∧ Dp K H v d ∧ PyData.canLay0 d = true ∧ d.depth ≤ 60 ∧ PyData.showable d = true ∧ d.shown.length ≤ sizeLine ∧ Q (.str d.shown) H
theorem call_repr {X : Cx} (gu : X.A.guards = some []) (hu : X.A.units + 70 < cLine) : CallR X (.builtin "repr") (rRepr X.K) := by
  rintro pins s σ H vs us Q I r ⟨v, d, rfl, hd, hl, h60, hs, hz, q⟩
  match us, r with
  | [u], .cons r .nil =>
    have done : ∀ tk t, EP X pins σ Q (.str d.shown t) { s with toks := tk } := fun tk t => ⟨.str d.shown, H, I.tok _, ⟨_, rfl⟩, q⟩
    have big : ∀ a, v = .ref a → wpAny (model X.prog X.w) X.A (call (.builtin "repr") [u]) (EP X pins σ Q) X.xe s := by
      rintro a rfl
      obtain rfl : u = Value.ref a := r
      obtain ⟨as, hr⟩ := Dp.reads I d _ _ hd rfl
      refine repr_of_reads' hr hs (PyData.noDict_hsm (PyData.hasDict_of_canLay d hl)) gu (by omega) (fun _ _ e => e) (fun h' t tk hk => ?_) hz
      exact ⟨.str d.shown, H, I.kept hk, ⟨_, rfl⟩, q⟩
    cases hd with
    | non =>
      obtain rfl : u = Value.none := r
      simp only [PyData.shown] at done
      exact PySem.P.repr_of_none (done _ _)
    | bl b =>
      obtain rfl : u = Value.bool b := r
      simp only [PyData.shown] at done
      exact PySem.P.repr_of_bool (done _ _)
    | int i =>
      obtain ⟨t, rfl⟩ := r
      simp only [PyData.shown] at done
      exact PySem.P.repr_of_int (by simpa [PyData.showable] using hs) (done _ _)
    | str x =>
      obtain ⟨t, rfl⟩ := r
      simp only [PyData.shown] at done hz
      exact PySem.P.repr_of_str (done _ _) hz
    | lst _ _ => exact big _ rfl
    | tup _ _ => exact big _ rfl
/-- the greatest, the least of a list that isn't empty -/
def maxI : List Int → Int
  | [] => 0
  | [n] => n
  | n :: ns => if n < maxI ns then maxI ns else n
def minI : List Int → Int
  | [] => 0
  | [n] => n
  | n :: ns => if minI ns < n then minI ns else n
theorem maxI_spec : ∀ {ns : List Int}, ns ≠ [] → maxI ns ∈ ns ∧ ∀ y ∈ ns, y ≤ maxI ns
  | [], h => absurd rfl h
  | [n], _ => by simp [maxI]
  | n :: m :: ns, _ => by
    obtain ⟨h1, h2⟩ := maxI_spec (ns := m :: ns) (by simp)
    unfold maxI
    split
    · rename_i h
      refine ⟨List.mem_cons_of_mem _ h1, fun y hy => ?_⟩
      rcases List.mem_cons.mp hy with e | hy
      · rw [e]; omega
      · exact h2 y hy
    · rename_i h
      refine ⟨List.mem_cons_self, fun y hy => ?_⟩
      rcases List.mem_cons.mp hy with e | hy
      · rw [e]; exact Int.le_refl _
      · have := h2 y hy; omega
theorem minI_spec : ∀ {ns : List Int}, ns ≠ [] → minI ns ∈ ns ∧ ∀ y ∈ ns, minI ns ≤ y
  | [], h => absurd rfl h
  | [n], _ => by simp [minI]
  | n :: m :: ns, _ => by
    obtain ⟨h1, h2⟩ := minI_spec (ns := m :: ns) (by simp)
    unfold minI
    split
    · rename_i h
      refine ⟨List.mem_cons_of_mem _ h1, fun y hy => ?_⟩
      rcases List.mem_cons.mp hy with e | hy
      · rw [e]; omega
      · exact h2 y hy
    · rename_i h
      refine ⟨List.mem_cons_self, fun y hy => ?_⟩
      rcases List.mem_cons.mp hy with e | hy
      · rw [e]; exact Int.le_refl _
      · have := h2 y hy; omega
inductive Bfn | repr | minL | maxL | len | lenS | all | any | abs | min2 | max2 | sorted | list | tuple | intB | isi (T : String) | strI | isE (xs : List Str) | lenA | minA | maxA | sortedD | reprN | dictP | dictD | intS | sortedM | sortedT
def Bfn.nm : Bfn → Str
  | .repr | .reprN => "repr" | .minL | .minA => "min" | .maxL | .maxA => "max"
  | .len | .lenS | .lenA => "len" | .all => "all" | .any => "any" | .abs => "abs" | .min2 => "min" | .max2 => "max" | .sorted | .sortedM | .sortedT | .sortedD => "sorted" | .list => "list" | .dictP | .dictD => "dict" | .tuple => "tuple" | .intB | .intS => "int" | .isi _ | .isE _ => "isinstance" | .strI => "str"
def Bfn.u : Bfn → Value
  | .repr | .reprN => .builtin "repr" | .minL | .minA => .builtin "min" | .maxL | .maxA => .builtin "max"
  | .len | .lenS | .lenA => .builtin "len" | .all => .builtin "all" | .any => .builtin "any" | .abs => .builtin "abs" | .min2 => .builtin "min" | .max2 => .builtin "max" | .sorted | .sortedM | .sortedT | .sortedD => .builtin "sorted" | .list => .type "list" | .dictP | .dictD => .type "dict" | .tuple => .type "tuple"
  | .intB | .intS => .type "int" | .isi _ | .isE _ => .builtin "isinstance" | .strI => .type "str"
theorem Bfn.boot : ∀ b : Bfn, bootBuiltins b.nm = some b.u
  | .isi _ | .isE _ => by show bootBuiltins "isinstance" = some (.builtin "isinstance"); decide +kernel
  | .repr | .reprN | .minL | .maxL | .minA | .maxA | .len | .lenS | .lenA | .all | .any | .abs | .min2 | .max2 | .sorted | .sortedM | .sortedT | .sortedD | .list | .dictP | .dictD | .tuple | .intB | .intS | .strI => by decide +kernel
theorem Bfn.nm_ok : ∀ b : Bfn, b.nm ≠ "__name__" ∧ (b.nm == ("__debug__" : Str)) = false
  | .isi _ | .isE _ => by show ("isinstance" : Str) ≠ "__name__" ∧ (("isinstance" : Str) == ("__debug__" : Str)) = false; decide +kernel
  | .repr | .reprN | .minL | .maxL | .minA | .maxA | .len | .lenS | .lenA | .all | .any | .abs | .min2 | .max2 | .sorted | .sortedM | .sortedT | .sortedD | .list | .dictP | .dictD | .tuple | .intB | .intS | .strI => by decide +kernel
theorem Bfn.kind : ∀ b : Bfn, (∃ id, b.u = .builtin id) ∨ ∃ T, b.u = .type T
  | .repr | .reprN | .minL | .maxL | .minA | .maxA | .len | .lenS | .lenA | .all | .any | .abs | .min2 | .max2 | .sorted | .sortedM | .sortedT | .sortedD | .isi _ | .isE _ => .inl ⟨_, rfl⟩
  | .list | .dictP | .dictD | .tuple | .intB | .intS | .strI => .inr ⟨_, rfl⟩
/-- the classes of exceptions that are asked for -/
def Bfn.nx : Bfn → List Str
  | .isE xs => xs
  | _ => []
def Bfn.f : Bfn → List D → GH → QK → Prop
  | .isE xs => fIsE xs
  | .minA => fBest min
  | .maxA => fBest max
  | .lenA => fun ds g Q => match ds with | [.str z] => z.length ≤ sizeLine ∧ Q (.v (.int z.length)) g | [d] => seqOf g (.v d) fun xs _ => Q (.v (.int xs.length)) g | _ => False
  | .reprN => fun ds g Q => match ds with | [z] => okD 60 (rsv2 g z) = true ∧ PyData.showable (pd (rsv2 g z)) = true ∧ (pd (rsv2 g z)).shown.length ≤ sizeLine ∧ Q (.v (.str (pd (rsv2 g z)).shown)) g | _ => False
  | .repr => fun ds g Q => match ds with | [z] => ∃ d, resR g (.v z) d ∧ okD 60 d = true ∧ PyData.showable (pd d) = true ∧ (pd d).shown.length ≤ sizeLine ∧ Q (.v (.str (pd d).shown)) g | _ => False
  | .minL => fun ds g Q => match ds with | [d] => ∃ ns : List Int, lstOf g (.v d) (ns.map .int) ∧ ns ≠ [] ∧ Q (.v (.int (minI ns))) g | _ => False
  | .maxL => fun ds g Q => match ds with | [d] => ∃ ns : List Int, lstOf g (.v d) (ns.map .int) ∧ ns ≠ [] ∧ Q (.v (.int (maxI ns))) g | _ => False
  | .len => fun ds g Q => match ds with | [d] => ∃ xs, (lstOf g (.v d) xs ∨ tupOf (.v d) xs) ∧ Q (.v (.int xs.length)) g | _ => False
  | .lenS => fun ds g Q => match ds with | [.str z] => z.length ≤ sizeLine ∧ Q (.v (.int z.length)) g | _ => False
  | .all => fun ds g Q => match ds with | [d] => ∃ bs : List Bool, lstOf g (.v d) (bs.map .bl) ∧ Q (.v (.bl (bs.all id))) g | _ => False
  | .any => fun ds g Q => match ds with | [d] => ∃ bs : List Bool, lstOf g (.v d) (bs.map .bl) ∧ Q (.v (.bl (bs.any id))) g | _ => False
  | .abs => fun ds g Q => match ds with | [.int i] => Q (.v (.int (if i < 0 then -i else i))) g | _ => False
  | .min2 => fun ds g Q => match ds with | [.int i, .int j] => Q (.v (.int (if j < i then j else i))) g | _ => False
  | .max2 => fun ds g Q => match ds with | [.int i, .int j] => Q (.v (.int (if j > i then j else i))) g | _ => False
  | .dictD => fun ds g Q => match ds with | [.ref a] => ∃ kvs, g a = some (.dk kvs) ∧ ∀ p, g p = none → Q (.v (.ref p)) (gup g p (.dk kvs)) | _ => False
  | .dictP => fun ds g Q => match ds with | [d] => ∃ ns : List Int, lstOf g (.v d) (ns.map fun n => .tup [.int n, .bl true]) ∧ ∀ p, g p = none → Q (.v (.ref p)) (gup g p (.dk (dictS ns))) | _ => False
  | .sortedD => fun ds g Q => match ds with | [.ref a] => ∃ kvs ns, g a = some (.dk kvs) ∧ kvs.map (·.1) = ns.map Sum.inl ∧ Q (.tl ((isort ns).map .int)) g | _ => False
  | .sorted => fun ds g Q => match ds with | [d] => ∃ ns : List Int, (lstOf g (.v d) (ns.map .int) ∨ tupOf (.v d) (ns.map .int)) ∧ Q (.tl ((isort ns).map .int)) g | _ => False
  | .sortedT => fun ds g Q => match ds with | [d] => ∃ ts : List (List Int), (lstOf g (.v d) (ts.map fun t => .tup (t.map .int)) ∨ ∃ a kvs, d = .ref a ∧ g a = some (.dt kvs) ∧ kvs.map (·.1) = ts.map tK) ∧ (2 ≤ ts.length → ∀ t ∈ ts, t ≠ []) ∧ ∀ us : List (List Int), us.Perm ts → us.Pairwise (fun a b => lexL b a = false) → Q (.tl (us.map fun t => .tup (t.map .int))) g | _ => False
  | .sortedM => fun ds g Q => match ds with | [d] => (∃ ns : List Int, (lstOf g (.v d) (ns.map .int) ∨ tupOf (.v d) (ns.map .int)) ∧ Q (.tl ((isort ns).map .int)) g) ∨ (∃ (ns : List Int) (b : Bool), tupOf (.v d) (ns.map .int ++ [.bl b]) ∧ ∀ ys : List D, ys.Perm (ns.map .int ++ [.bl b]) → Q (.tl ys) g) | _ => False
  | .list => fun ds g Q => match ds with | [d] => ∃ xs, (lstOf g (.v d) xs ∨ tupOf (.v d) xs) ∧ Q (.tl xs) g | _ => False
  | .tuple => fun ds g Q => match ds with | [d] => ∃ xs, (lstOf g (.v d) xs ∨ tupOf (.v d) xs) ∧ Q (.v (.tup xs)) g | _ => False
  | .intS => fun ds g Q => match ds with | [.str z] => ∃ n, PySem.intText? z = some n ∧ z.length ≤ 640 ∧ Q (.v (.int n)) g | _ => False
  | .intB => fun ds g Q => match ds with | [.bl b] => Q (.v (.int (if b then 1 else 0))) g | _ => False
  | .isi T => fun ds g Q => match ds with | [d, .ty c] => c = T ∧ T ∈ kinds ∧ ∃ t, tyN g d t ∧ Q (.v (.bl (isiB t T))) g | _ => False
  | .strI => fun ds g Q => match ds with | [.int i] => i.natAbs.log2 < 1920 ∧ Q (.v (.str (toString i))) g | [.str s] => Q (.v (.str s)) g | _ => False
theorem rd_lt {K : PySem.W.Frag} {B : List Addr} {H : Hp} {g : GH} {v : V} {d : D} {xs : List D} (w : Vw K B H g) (h : Rep K (hide H B) g v d) (l : lstOf g (.v d) xs ∨ tupOf (.v d) xs) :
    ∃ a vs, v = .ref a ∧ Reps K (hide H B) g vs xs ∧ (H a = some (.lst vs) ∨ (SqT K H a vs ∧ d = .tup xs)) := by
  rcases l with l | l
  · obtain ⟨a, vs, e, h, q⟩ := lstOf.rep w.rg (r := .v d) h l; exact ⟨a, vs, e, q, .inl (of_hide h).1⟩
  · have e : d = .tup xs := by
      cases d <;> first | exact l.elim | (cases (show xs = _ from l); rfl)
    obtain ⟨a, vs, e', h, q⟩ := tupOf.rep (r := .v d) h l; exact ⟨a, vs, e', q, .inr ⟨sqT_un h, e⟩⟩
theorem tyN_kinds {g : GH} {d : D} {n : String} (h : tyN g d n) : n ∈ kinds := by
  cases d with
  | ref a => rcases h with ⟨_, _, rfl⟩ | ⟨_, _, rfl⟩ | ⟨_, _, rfl⟩ <;> decide
  | ty n => exact h.elim
  | gl _ => exact h.elim
  | exc _ _ => exact h.elim
  | _ => cases h; decide
theorem okD_more : ∀ (m n : Nat), m ≤ n → ∀ d, okD m d = true → okD n d = true := by
  intro m
  induction m with
  | zero => intro n _ d h; cases d <;> first | exact h | (simp [okD] at h)
  | succ m ih =>
    intro n hn d h
    obtain ⟨n, rfl⟩ : ∃ k, n = k + 1 := ⟨n - 1, by omega⟩
    have all : ∀ ds, okDs m ds = true → okDs n ds = true := by
      intro ds
      induction ds with
      | nil => intro _; rfl
      | cons d ds ih2 =>
        intro h
        simp only [okDs, Bool.and_eq_true] at h ⊢
        exact ⟨ih n (by omega) d h.1, ih2 h.2⟩
    cases d <;> first | exact h | (simp only [okD] at h ⊢; exact all _ h)
/-- asks for a calm place -/
def Bfn.cm : Bfn → Bool
  | .minL | .maxL | .minA | .maxA | .all | .any | .min2 | .max2 | .sortedD | .sortedT | .dictP => true
  | _ => false
theorem Bfn.ok (X : Cx) (b : Bfn) (hcm : b.cm = true → X.calm = true) (gu : X.A.guards = some []) (hu : X.A.units + 70 < cLine) (E : ExcW X.K b.nx) : ∃ r, CallR X b.u r ∧ RNOk X.K b.f r := by
  cases b with
  | isE xs => exact ⟨_, call_isX, ok_isE E⟩
  | minA => exact ⟨_, cr_minA (hcm rfl) (by omega), ok_best⟩
  | maxA => exact ⟨_, cr_maxA (hcm rfl) (by omega), ok_best⟩
  | lenA => exact ⟨_, call_len, fun xs ds B H g Q0 Q r w q c => by
      unfold Bfn.f at q
      dsimp only at q
      split at q
      · match r with
        | .cons r .nil =>
          cases r
          exact ⟨_, _, rfl, ⟨q.1, rfl⟩, c.here q.2 (.int _) w⟩
      · match r with
        | .cons r .nil =>
          obtain ⟨ys, hl⟩ := seqOf.cases q
          obtain ⟨a, vs, rfl, rv, h⟩ := rd_lt w r (hl.imp (·.1) (·.1))
          have q := hl.elim (·.2) (·.2)
          refine ⟨_, vs.length, rfl, ?_, c.here (by rw [rv.length]; exact q) (.int _) w⟩
          rcases h with h | ⟨h, _⟩
          · exact .inl ⟨vs, .inl (.inl h), rfl⟩
          · exact .inr ⟨vs, h, rfl⟩
      · exact q.elim⟩
  | repr => exact ⟨_, call_repr gu hu, fun xs ds B H g Q0 Q r w q c => by
      match ds, r, q with
      | [z], .cons r .nil, ⟨d, hd, h60, hs, hz, q⟩ =>
        have lay := okD_lay 60 d h60
        exact ⟨_, _, rfl, resR.dp (r := .v z) w.un r.un hd (okD_more 60 64 (by omega) d h60), lay.1, lay.2, hs, hz, c.here q (.str _) w⟩⟩
  | reprN => exact ⟨_, call_repr gu hu, fun xs ds B H g Q0 Q r w q c => by
      match ds, r, q with
      | [z], .cons r .nil, ⟨h60, hs, hz, q⟩ =>
        have lay := okD_lay 60 _ h60
        exact ⟨_, _, rfl, rsv2_dp w.un r.un (okD_more 60 64 (by omega) _ h60), lay.1, lay.2, hs, hz, c.here q (.str _) w⟩⟩
  | minL => exact ⟨_, cr_min (hcm rfl), fun xs ds B H g Q0 Q r w q c => by
      match ds, r, q with
      | [d], .cons r .nil, ⟨ns, hl, hn, q⟩ =>
        obtain ⟨a, vs, rfl, h, rv⟩ := lstOf.rep w.rg (r := .v d) r hl
        refine ⟨a, ns, rfl, .inl (.inl (by rw [← rv.int_inv]; exact (of_hide h).1)), List.length_pos_iff.mpr hn, fun m hm ha => ?_⟩
        have sp := minI_spec hn
        rw [show m = minI ns from Int.le_antisymm (ha _ sp.1) (sp.2 m hm)]
        exact c.here q (.int _) w⟩
  | maxL => exact ⟨_, cr_max (hcm rfl), fun xs ds B H g Q0 Q r w q c => by
      match ds, r, q with
      | [d], .cons r .nil, ⟨ns, hl, hn, q⟩ =>
        obtain ⟨a, vs, rfl, h, rv⟩ := lstOf.rep w.rg (r := .v d) r hl
        refine ⟨a, ns, rfl, .inl (.inl (by rw [← rv.int_inv]; exact (of_hide h).1)), List.length_pos_iff.mpr hn, fun m hm ha => ?_⟩
        have sp := maxI_spec hn
        rw [show m = maxI ns from Int.le_antisymm (sp.2 m hm) (ha _ sp.1)]
        exact c.here q (.int _) w⟩
  | len => exact ⟨_, call_len, fun xs ds B H g Q0 Q r w q c => by
      match ds, r, q with
      | [d], .cons r .nil, ⟨ys, hl, q⟩ =>
        obtain ⟨a, vs, rfl, rv, h⟩ := rd_lt w r hl
        refine ⟨_, vs.length, rfl, ?_, c.here (by rw [rv.length]; exact q) (.int _) w⟩
        rcases h with h | ⟨h, _⟩
        · exact .inl ⟨vs, .inl (.inl h), rfl⟩
        · exact .inr ⟨vs, h, rfl⟩⟩
  | lenS => exact ⟨_, call_len, fun xs ds B H g Q0 Q r w q c => by
      match ds, r, q with
      | [.str z], .cons r .nil, ⟨hz, q⟩ =>
        cases r
        exact ⟨_, z.length, rfl, ⟨hz, rfl⟩, c.here q (.int _) w⟩⟩
  | all => exact ⟨_, cr_all (hcm rfl), fun xs ds B H g Q0 Q r w q c => by
      match ds, r, q with
      | [d], .cons r .nil, ⟨bs, hl, q⟩ =>
        obtain ⟨a, vs, rfl, h, rv⟩ := lstOf.rep w.rg (r := .v d) r hl
        exact ⟨a, bs, rfl, .inl (.inl (by rw [← rv.bl_inv]; exact (of_hide h).1)), c.here q (.bl _) w⟩⟩
  | any => exact ⟨_, cr_any (hcm rfl), fun xs ds B H g Q0 Q r w q c => by
      match ds, r, q with
      | [d], .cons r .nil, ⟨bs, hl, q⟩ =>
        obtain ⟨a, vs, rfl, h, rv⟩ := lstOf.rep w.rg (r := .v d) r hl
        exact ⟨a, bs, rfl, .inl (.inl (by rw [← rv.bl_inv]; exact (of_hide h).1)), c.here q (.bl _) w⟩⟩
  | abs => exact ⟨_, call_abs, fun xs ds B H g Q0 Q r w q c => by
      match ds, r, q with
      | [.int i], .cons r .nil, q => cases r; exact ⟨i, rfl, c.here q (.int _) w⟩⟩
  | min2 => exact ⟨_, call_min2 (hcm rfl), fun xs ds B H g Q0 Q r w q c => by
      match ds, r, q with
      | [.int i, .int j], .cons r (.cons r2 .nil), q => cases r; cases r2; exact ⟨i, j, rfl, c.here q (.int _) w⟩⟩
  | max2 => exact ⟨_, call_max2 (hcm rfl), fun xs ds B H g Q0 Q r w q c => by
      match ds, r, q with
      | [.int i, .int j], .cons r (.cons r2 .nil), q => cases r; cases r2; exact ⟨i, j, rfl, c.here q (.int _) w⟩⟩
  | sorted => exact ⟨_, cr_sortedA, fun xs ds B H g Q0 Q r w q c => by
      match ds, r, q with
      | [d], .cons r .nil, ⟨ns, hl, q⟩ =>
        obtain ⟨a, vs, rfl, rv, h⟩ := rd_lt w r hl
        obtain rfl := rv.int_inv
        refine ⟨a, ns, rfl, ?_, fun ns' p hp hs hn => ?_⟩
        · rcases h with h | ⟨h, _⟩
          · exact .inl (.inl (.inl h))
          · exact .inr h
        · rw [sorted_uniq (hp.trans (isort_perm ns).symm) hs (isort_sorted ns)]
          exact c.newL q (Reps.ints _) w p hn⟩
  | sortedT => exact ⟨_, cr_sortTL.or (cr_sortTD (hcm rfl)), fun xs ds B H g Q0 Q r w q c => by
      match ds, r, q with
      | [d], .cons r .nil, ⟨ts, .inl hl, hne, q⟩ =>
        obtain ⟨a, vs, rfl, h, rv⟩ := lstOf.rep w.rg (r := .v d) r hl
        obtain ⟨bs, rfl, h2, h3⟩ := reps_tups rv
        refine .inl ⟨a, bs, kfH H, rfl, .inl (.inl (of_hide h).1), fun b hb => .inl (.inl (h3 b hb)), fun h2' b hb => hne (by rw [← h2, List.length_map]; exact h2') _ (by rw [← h2]; exact List.mem_map.mpr ⟨b, hb, rfl⟩), fun cs p hp hs hn => ?_⟩
        exact c.newL (q (cs.map (kfH H)) (by rw [← h2]; exact hp.map _) (List.pairwise_map.mpr hs)) (tups_reps w fun b hb => h3 b (hp.mem_iff.mp hb)) w p hn
      | [d], .cons r .nil, ⟨ts, .inr ⟨a, kvs, e, hg, hk⟩, hne, q⟩ =>
        subst e
        cases r
        obtain ⟨vs, hp, rv⟩ := trk_dt w hg
        refine .inr ⟨a, vs, ts, rfl, .inl hp, rv.keys.trans hk, hne, fun bs cs p hb1 hb2 hp hs hn => ?_⟩
        exact c.newL (q (cs.map (kfH H)) (by rw [← hb1]; exact hp.map _) (List.pairwise_map.mpr hs)) (tups_reps w fun b hb => hb2 b (hp.mem_iff.mp hb)) w p hn⟩
  | sortedM => exact ⟨_, cr_sortedAM, fun xs ds B H g Q0 Q r w q c => by
      match ds, r, q with
      | [d], .cons r .nil, .inl ⟨ns, hl, q⟩ =>
        obtain ⟨a, vs, rfl, rv, h⟩ := rd_lt w r hl
        obtain rfl := rv.int_inv
        refine .inl ⟨a, ns, rfl, ?_, fun ns' p hp hs hn => ?_⟩
        · rcases h with h | ⟨h, _⟩
          · exact .inl (.inl (.inl h))
          · exact .inr h
        · rw [sorted_uniq (hp.trans (isort_perm ns).symm) hs (isort_sorted ns)]
          exact c.newL q (Reps.ints _) w p hn
      | [d], .cons r .nil, .inr ⟨ns, b, hl, q⟩ =>
        obtain ⟨a, vs, rfl, h, rv⟩ := tupOf.rep (r := .v d) r hl
        have h := sqT_un h
        obtain rfl := rv.mix_inv
        refine .inr ⟨a, ns, b, rfl, h, fun ys p hp hn => ?_⟩
        obtain ⟨ds', hp', rd⟩ := reps_perm (ws := ns.map D.int ++ [D.bl b]) (Reps.mix ns b) hp
        exact c.newL (q ds' hp') rd w p hn⟩
  | dictD => exact ⟨_, call_dictD, fun xs ds B H g Q0 Q r w q c => by
      match ds, r, q with
      | [.ref a], .cons r .nil, ⟨kvs, hg, q⟩ =>
        cases r
        obtain ⟨vs, hp, rv⟩ := trk_dk w hg
        exact ⟨a, vs, rfl, .inl hp, fun p hp => c.newO w hp (.dK rv) (q p)⟩⟩
  | dictP => exact ⟨_, call_dictP (hcm rfl), fun xs ds B H g Q0 Q r w q c => by
      match ds, r, q with
      | [d], .cons r .nil, ⟨ns, hl, q⟩ =>
        obtain ⟨a, vs, rfl, h, rv⟩ := lstOf.rep w.rg (r := .v d) r hl
        obtain ⟨ps, rfl, pr⟩ := pairs_ref rv
        exact ⟨a, ps, _, rfl, .inl (.inl (of_hide h).1), pr, fun p hp => c.newO w hp (.dK (merge_rep ns .nil)) (q p)⟩⟩
  | sortedD => exact ⟨_, cr_sortD (hcm rfl), fun xs ds B H g Q0 Q r w q c => by
      match ds, r, q with
      | [.ref a], .cons r .nil, ⟨kvs, ns, hg, hk, q⟩ =>
        cases r
        obtain ⟨vs, hp, rv⟩ := trk_dk w hg
        refine ⟨a, vs, ns, rfl, .inl hp, rv.keys.trans hk, fun ns' p hp hs hn => ?_⟩
        rw [sorted_uniq (hp.trans (isort_perm ns).symm) hs (isort_sorted ns)]
        exact c.newL q (Reps.ints _) w p hn⟩
  | list => exact ⟨_, call_list_of, fun xs ds B H g Q0 Q r w q c => by
      match ds, r, q with
      | [d], .cons r .nil, ⟨ys, hl, q⟩ =>
        obtain ⟨a, vs, rfl, rv, h⟩ := rd_lt w r hl
        refine ⟨a, vs, rfl, ?_, fun l hn => c.newL q rv w l hn⟩
        rcases h with h | ⟨h, _⟩
        · exact .inl (.inl (.inl h))
        · exact .inr h⟩
  | tuple => exact ⟨_, call_tuple_of, fun xs ds B H g Q0 Q r w q c => by
      match ds, r, q with
      | [d], .cons r .nil, ⟨ys, hl, q⟩ =>
        obtain ⟨a, vs, rfl, rv, h⟩ := rd_lt w r hl
        refine ⟨a, vs, rfl, ?_⟩
        rcases h with h | ⟨h, e⟩
        · exact .inl ⟨.inl (.inl h), fun l hn => c.newT q rv w l hn⟩
        · subst e
          exact .inr ⟨h, c.here q r w⟩⟩
  | intS => exact ⟨_, call_int_str, fun xs ds B H g Q0 Q r w q c => by
      match ds, r, q with
      | [.str z], .cons r .nil, ⟨n, h1, h2, q⟩ => cases r; exact ⟨z, n, rfl, h1, h2, c.here q (.int _) w⟩⟩
  | intB => exact ⟨_, call_int1, fun xs ds B H g Q0 Q r w q c => by
      match ds, r, q with
      | [.bl b], .cons r .nil, q => cases r; exact .inr ⟨b, rfl, c.here q (.int _) w⟩⟩
  | isi T => exact ⟨_, call_isi, fun xs ds B H g Q0 Q r w q c => by
      match ds, r, q with
      | [d, .ty z], .cons r (.cons r2 .nil), ⟨e, hT, t, ht, q⟩ =>
        subst e
        cases r2
        exact ⟨_, _, _, _, _, rfl, .ty z, ht.ok w r, isiB_ok X.K t (tyN_kinds ht) z hT, c.here q (.bl _) w⟩⟩
  | strI => exact ⟨_, call_str_int.or SkE.call_str_str, fun xs ds B H g Q0 Q r w q c => by
      match ds, r, q with
      | [.int i], .cons r .nil, ⟨hz, q⟩ => cases r; exact .inl ⟨i, rfl, hz, c.here q (.str _) w⟩
      | [.str s], .cons r .nil, q => cases r; exact .inr ⟨s, rfl, c.here q (.str _) w⟩⟩
end G3
/-! G3m: l.count(x), l.index(x) over data -/
namespace G3
open PySem PySem.Spec PyProof.Rows L2
def rCountD (K : PySem.W.Frag) : V → List V → Hp → VK → Prop := fun x xs H Q => ∃ (a : Addr) (y : V) (d : PyData) (ds : List PyData), x = V.ref a ∧ xs = [y] ∧ Dp K H (V.ref a) (.list ds) ∧ Dp K H y d ∧
  SeqAt.shaped (.list ds) = true ∧ SeqAt.shaped d = true ∧ Q (.int (ds.countP fun z => PyData.eqv z d : Nat)) H
theorem mt_countD {X : Cx} (units : X.A.units + 65 < cLine) : MtR X "list.count" (rCountD X.K) := by
  rintro pins s σ H x xs v us Q I rx rxs ⟨a, y, d, ds, rfl, rfl, hl, hy, sl, sd, q⟩
  cases rx
  match us, rxs with
  | [uy], .cons ry .nil =>
    obtain ⟨bs, r1⟩ := Dp.reads I d y uy hy ry
    have lay : PyData.canLayAll0 ds = true := SeqAt.canLay_of_shaped sl
    have room : X.A.units + 1 + min (PyData.depthAll ds) d.depth < cLine := room_in_shaped sd units
    match hl with
    | .lst hs ha =>
      obtain ⟨its, rv, ⟨⟨cls, dd, data, sls⟩, n, ho, hc, hdn, hdt⟩, hlen⟩ := I.list hs
      simp only at hc hdt
      subst hc hdt
      obtain ⟨as, h4⟩ := Dp.readsAll I ds _ its ha rv
      have hmap : its.map (SeqAt.readOf s.heap) = ds := SeqAt.readsAll_map ds its as lay h4
      have cnt : its.countP (fun u => PyData.eqv (SeqAt.readOf s.heap u) d) = ds.countP fun z => PyData.eqv z d := by
        rw [← hmap, List.countP_map]; rfl
      refine call_meets PySem.F.slot_list_count ⟨_, ho, rfl⟩ PySem.F.entry_list_count (PySem.F.args_list_count_2 _ _)
        (SeqAt.list_countAt a its.toArray n dd sls uy fun u => PyData.eqv (SeqAt.readOf s.heap u) d) ⟨ho, SeqAt.items_eqAt (vs := its.toArray) (show ReadsAll s.heap its.toArray.toList ds as from h4) r1 lay (SeqAt.canLay_of_shaped sd) room, ?_⟩
      refine ⟨.int (ds.countP fun z => PyData.eqv z d : Nat), H, I.tok _, ⟨s.toks, ?_⟩, q⟩
      rw [← cnt] <;> rfl
theorem pds_count {x : D} : ∀ (ds : List D), (pds ds).countP (fun z => PyData.eqv z (pd x)) = ds.countP fun y => deq y x
  | [] => rfl
  | d :: ds => by
    rw [pds, List.countP_cons, List.countP_cons, pds_count ds]; rfl
theorem pds_get : ∀ (ds : List D) (i : Nat), (pds ds)[i]? = (ds[i]?).map pd
  | [], _ => rfl
  | d :: ds, 0 => rfl
  | d :: ds, i + 1 => by simpa [pds] using pds_get ds i
/-- the first place of an equal one -/
def idxD (x : D) : List D → Option Nat
  | [] => none
  | y :: ys => if deq y x = true then some 0 else (idxD x ys).map (· + 1)
theorem idxD_spec {x : D} : ∀ {ys : List D} {j : Nat}, idxD x ys = some j → (∃ z, ys[j]? = some z ∧ deq z x = true) ∧ ∀ m z, m < j → ys[m]? = some z → deq z x = false
  | [], j, h => by simp [idxD] at h
  | y :: ys, j, h => by
    unfold idxD at h
    split at h
    · rename_i e
      cases h
      exact ⟨⟨y, rfl, e⟩, fun m z hm => by omega⟩
    · rename_i e
      cases q : idxD x ys with
      | none => rw [q] at h; cases h
      | some k =>
        rw [q] at h; cases h
        obtain ⟨⟨z, h1, h2⟩, h3⟩ := idxD_spec q
        refine ⟨⟨z, by simpa using h1, h2⟩, fun m z' hm hz => ?_⟩
        cases m with
        | zero =>
          simp at hz; subst hz
          simpa using e
        | succ m => exact h3 m z' (by simpa using hm) (by simpa using hz)
end G3
/-! G3: calls, methods of lists, stores, a def by its body -/
namespace G3
open PySem L2

/-! ### calls of defs -/
abbrev GSp := List D → GH → QK → XKD → Prop
def liftSp (K : PySem.W.Frag) (sp : GSp) : Sp := fun vs H Q E => ∃ B g ds Q0 W0, Vw K B H g ∧ Reps K (hide H B) g vs ds ∧ sp ds g Q0 W0 ∧ Cont K B H g Q0 Q ∧ XCont K B H g W0 E
/-- a def that keeps its promise where no repr is under way -/
structure FnG (P : Program) (w : World) (K : PySem.W.Frag) (mg : Str → Option Value) (base : Heap) (k : Nat) (f : Addr) (fd : FuncData) (ps : List Str) (sp : GSp) : Prop where
  many : ∀ ds g Q W, sp ds g Q W → ds.length = ps.length
  go : ∀ (A : Around) (outer : List PySem.Env) (s : Shared) (H : Hp) (args : Args) (us : List Value) (vs : List V) (Q : VK) (Z : XK), A.guards = some [] → Room k A → Env0 P w K mg base A outer s H →
    BindsTo s fd args (ps.zip us) → Vals vs us → liftSp K sp vs H Q Z → codeAny (model P w) A (.call (.ref f) args) (CR (L2.CX P w) outer P w H s Q Z) s
theorem FnG.len {P : Program} {w : World} {K : PySem.W.Frag} {mg : Str → Option Value} {base : Heap} {k : Nat} {f : Addr} {fd : FuncData} {ps : List Str} {sp : GSp} (F : FnG P w K mg base k f fd ps sp) {vs : List V} {H : Hp} {Q : VK} {Z : XK}
    (h : liftSp K sp vs H Q Z) : vs.length = ps.length := by
  obtain ⟨B, g, ds, Q0, W0, _, r, h, _⟩ := h
  rw [r.length]; exact F.many ds g Q0 W0 h
section
variable {X : Cx} {W : L2.WX} {sp : GSp} {k : Nat} {f : Addr} {fd : FuncData} {ps : List Str}
/-- the callee's run, from a body -/
theorem FnG.at_ (F : FnG X.prog X.w X.K X.mg X.base k f fd ps sp) (gu : X.A.guards = some []) (hr : Room k X.A) (hb : Binds X.K fd ps []) (tk : Takes X W) {pins : List (Addr × Obj)} {σ : L2.St} {H : Hp} {s : Shared} {Q : VK} {us : List Value} {vs : List V}
    (I : Inv X pins σ H s) (r : Vals vs us) (h : liftSp X.K sp vs H Q (WE W σ)) : wpAny (model X.prog X.w) X.A (call (.ref f) us) (EP X pins σ Q) X.xe s := by
  have bnd : BindsTo s fd ⟨us, []⟩ (ps.zip us) := by
    have := hb s us I.kIn (by rw [List.append_nil, ← r.length]; exact F.len h)
    rwa [List.append_nil] at this
  refine wpAny_call (codeAny_mono (F.go X.A X.stack s H ⟨us, []⟩ us vs Q (WE W σ) gu hr I.env0 bnd r h) ?_)
  intro r s2 q
  match r, q with
  | .error x, q => exact passAt tk σ pins H s x s2 I q
  | .ok (.ret u), q => exact I.after q
  | .ok .next, q | .ok .brk, q | .ok .cont, q => exact False.elim q
end
def wCall (sp : GSp) (tr : TAD) : TD := fun ρ g Q W => tr ρ g (fun ds g1 => sp ds g1 Q W) W
section
variable {X : Cx} {x : Str} {p pos apos : Pos} {e o : Expr} {es : List Expr} {tr : TAD} {ta tb tv : TD} {W : L2.WX} {sp : GSp} {k : Nat} {f : Addr} {fd : FuncData} {ps : List Str}
theorem call_imp {K : PySem.W.Frag} {W : L2.WX} {σ : L2.St} {H : Hp} {Q : VK} (h : LE K (WE W) (wCall sp tr) σ H Q) : tCallS (liftSp K sp) (WE W) (LA K (WE W) tr) σ H Q := by
  obtain ⟨B, ρ, g, Q0, W0, rs, rg, t, c, xc⟩ := h
  exact ⟨B, ρ, g, _, W0, rs, rg, t, fun ds g1 vs H1 hq rv w1 f1 => ⟨B, g1, ds, Q0, W0, w1, rv, hq, c.after f1, xc.after f1⟩, xc⟩
theorem q_call (F : FnG X.prog X.w X.K X.mg X.base k f fd ps sp) (gu : X.A.guards = some []) (hr : Room k X.A) (hg : Gl X x) (hm : X.mg x = some (.ref f)) (hk : PySem.W.keepIn X.K (.ref f) = true) (hb : Binds X.K fd ps []) (tk : Takes X W)
    (ha : PA X (e :: es) (LA X.K (WE W) tr)) (hdb : (x == ("__debug__" : Str)) = false) (he : starEach (e :: es) X.env = (false, eval e X.env) :: starEach es X.env) (hpl : (backTo pos (starEach es X.env)).any (·.1) = false) :
    PE X (.Call (.Name x p) (e :: es) [] pos) (LE X.K (WE W) (wCall sp tr)) := by
  refine PE.of ?_ fun σ H Q h => call_imp h
  constructor
  intro pins s σ H Q I h
  apply wpAny_Call_Name_kw
  refine ld_glob I hg hm ?_ hdb
  refine PySem.W.callWith_K I.ok.mod.kin hk (thn (ha.run pos pins s σ H _ I h) ?_) he hpl
  rintro us s1 ⟨vs, H1, I1, r, q⟩
  exact ⟨I1.kIn, F.at_ gu hr hb tk I1 r q⟩

theorem la_nil1 {K : PySem.W.Frag} {E : L2.St → XK} {σ : L2.St} {H : Hp} {Q : List V → Hp → Prop} (h : LA K E wNil σ H Q) : Q [] H := by
  obtain ⟨B, ρ, g, Q0, W0, rs, w, t, c, xc⟩ := h
  exact c [] g [] H t .nil w (Fr.refl _ _)
theorem q_call0 (F : FnG X.prog X.w X.K X.mg X.base k f fd ps sp) (gu : X.A.guards = some []) (hr : Room k X.A) (hg : Gl X x) (hm : X.mg x = some (.ref f)) (hk : PySem.W.keepIn X.K (.ref f) = true) (hb : Binds X.K fd ps []) (tk : Takes X W)
    (hdb : (x == ("__debug__" : Str)) = false) : PE X (.Call (.Name x p) [] [] pos) (LE X.K (WE W) (wCall sp wNil)) := by
  refine PE.of ?_ fun σ H Q h => call_imp h
  constructor
  intro pins s σ H Q I h
  refine wpAny_Call_Name_kw (ld_glob I hg hm ?_ hdb)
  exact PySem.W.callWith_K0 I.kIn hk (F.at_ (us := []) (vs := []) gu hr hb tk I .nil (la_nil1 h))
/-- C.m(..), m a def of the class C: what is known of it -/
structure ClmC (K : PySem.W.Frag) (C : Addr) (m : Str) (f : Addr) : Prop where
  rd : PySem.W.readsIn K C (.type "type") = true
  ga : PySem.W.specialIn K (.ref C) "__getattribute__" = some (some (.builtin "type.__getattribute__"))
  at_ : PySem.W.findCls K (.ref C) (.type "type") m = some (.val (.ref f))
  hd : PySem.W.handedIn (.ref f) = true
  kp : PySem.W.keepIn K (.ref f) = true
theorem q_clm {m : Str} {C : Addr} (F : FnG X.prog X.w X.K X.mg X.base k f fd ps sp) (gu : X.A.guards = some []) (hr : Room k X.A) (hg : Gl X x) (hm : X.mg x = some (.ref C)) (U : ClmC X.K C m f) (hb : Binds X.K fd ps []) (tk : Takes X W)
    (ha : PA X (e :: es) (LA X.K (WE W) tr)) (hdb : (x == ("__debug__" : Str)) = false) (hline : (apos.endLine == pos.line) = true) (hbase : attributeBase (.Name x p) m X.env (eval (.Name x p) X.env) = eval (.Name x p) X.env)
    (few : methodCallForm ((e :: es).length + ([] : List Keyword).length) (backTo pos (starEach (e :: es) X.env)) (backToKw pos (keywordEach [] X.env)) = true)
    (he : starEach (e :: es) X.env = (false, eval e X.env) :: starEach es X.env) (hpl : (backTo pos (starEach es X.env)).any (·.1) = false) :
    PE X (.Call (.Attribute (.Name x p) m apos) (e :: es) [] pos) (LE X.K (WE W) (wCall sp tr)) := by
  refine PE.of ?_ fun σ H Q h => call_imp h
  constructor
  intro pins s σ H Q I h
  have at_pos : methodCallPos true (.Name x p) X.env apos pos = pure pos := by unfold methodCallPos; simp [hline]
  rw [arm_eval_Call, hbase]
  refine wpAny_bind (ld_glob I hg hm ?_ hdb)
  refine wpAny_bind (wpAny_standAt ?_)
  unfold methodCall
  rw [few]
  refine wpAny_bind (wpAny_holding (PySem.W.method_cls I.kIn U.ga (PySem.W.cls_value I.kIn U.rd U.at_ U.hd ?_)))
  refine wpAny_bind (wpAny_of_eq at_pos ?_)
  show wpAny _ _ (callWith pos (Value.ref f) [] (backTo pos (starEach (e :: es) X.env)) []) _ _ _
  refine PySem.W.callWith_K (h₀ := X.base) I.ok.mod.kin U.kp (thn (ha.run pos pins _ σ H _ (I.tok _) h) ?_) he hpl
  rintro us s1 ⟨vs, H1, I1, r, q⟩
  exact ⟨I1.kIn, F.at_ gu hr hb tk I1 r q⟩

/-! ### methods of lists -/
/-- a thing of the kind whose method is called -/
def isKd (T : String) (g : GH) (r : R) : Prop := match r with
  | .v (.str _) => T = "str"
  | r => T = "list" ∧ ∃ xs, lstOf g r xs
def fMt (T : String) (f : R → List D → GH → QK → Prop) (ta : TD) (tr : TAD) : TD := fun ρ g Q W => ta ρ g (fun r g1 => isKd T g1 (.v r.fz) ∧ tr ρ g1 (fun ds g2 => f (.v r.fz) ds g2 Q) W) W
end
inductive Mth | append | popAt | pop | clear | extend | count | index | join | split | partition | upper
/-- whose -/
def Mth.kd : Mth → String
  | .join | .split | .partition | .upper => "str"
  | _ => "list"
def Mth.nm : Mth → Str
  | .append => "append" | .popAt | .pop => "pop" | .clear => "clear" | .extend => "extend" | .count => "count" | .index => "index" | .join => "join" | .split => "split" | .partition => "partition" | .upper => "upper"
def Mth.id : Mth → String
  | .append => "list.append" | .popAt | .pop => "list.pop" | .clear => "list.clear" | .extend => "list.extend" | .count => "list.count" | .index => "list.index" | .join => "str.join" | .split => "str.split" | .partition => "str.partition" | .upper => "str.upper"
def Mth.f : Mth → R → List D → GH → QK → Prop
  | .append => fun r ds g Q => match r, ds with | .v (.ref p), [d] => ∃ xs, g p = some (.lst xs) ∧ xs.length < sizeLine ∧ Q (.v .non) (gup g p (.lst (xs ++ [d]))) | _, _ => False
  | .popAt => fun r ds g Q => match r, ds with | .v (.ref p), [.int i] => ∃ xs k y, g p = some (.lst xs) ∧ -(2 ^ 63) ≤ i ∧ i < 2 ^ 63 ∧ seqIndex? i xs.length = some k ∧ xs[k]? = some y ∧ Q (.v y) (gup g p (.lst (xs.eraseIdx k))) | _, _ => False
  | .pop => fun r ds g Q => match r, ds with | .v (.ref p), [] => ∃ xs y, g p = some (.lst xs) ∧ xs[xs.length - 1]? = some y ∧ Q (.v y) (gup g p (.lst xs.dropLast)) | _, _ => False
  | .clear => fun r ds g Q => match r, ds with | .v (.ref p), [] => ∃ xs, g p = some (.lst xs) ∧ Q (.v .non) (gup g p (.lst [])) | _, _ => False
  | .extend => fun r ds g Q => match r, ds with | .v (.ref p), [d] => ∃ xs ys, g p = some (.lst xs) ∧ lstOf g (.v d) ys ∧ xs.length + ys.length ≤ sizeLine ∧ Q (.v .non) (gup g p (.lst (xs ++ ys))) | _, _ => False
  | .count => fun r ds g Q => match ds with | [d] => ∃ xs, lstOf g r xs ∧ okDs 63 xs = true ∧ okD 64 d = true ∧ Q (.v (.int (xs.countP fun y => deq y d : Nat))) g | _ => False
  | .index => fun r ds g Q => match ds with | [d] => ∃ xs j, lstOf g r xs ∧ okDs 63 xs = true ∧ okD 64 d = true ∧ idxD d xs = some j ∧ Q (.v (.int (j : Nat))) g | _ => False
  | .join => fun r ds g Q => match r, ds with | .v (.str a), [d] => ∃ ys : List Str, (lstOf g (.v d) (ys.map .str) ∨ tupOf (.v d) (ys.map .str)) ∧ (ys.map (·.length)).sum + ys.length * a.length ≤ 16777216 ∧ Q (.v (.str (Txt.join a ys))) g | _, _ => False
  | .split => fun r ds g Q => match r, ds with | .v (.str a), [.str b] => (b.length == 0) = false ∧ a.length + 2 ≤ sizeLine ∧ Q (.tl ((Txt.split a b).map .str)) g | _, _ => False
  | .partition => fun r ds g Q => match r, ds with | .v (.str a), [.str b] => (b.length == 0) = false ∧ a.length ≤ sizeLine ∧ Q (.v (.tup [.str (Txt.partition a b).1, .str (Txt.partition a b).2.1, .str (Txt.partition a b).2.2])) g | _, _ => False
  | .upper => fun r ds g Q => match r, ds with | .v (.str a), [] => a.length ≤ 5592405 ∧ Q (.v (.str (Txt.upper a))) g | _, _ => False
def MtOk (K : PySem.W.Frag) (f : R → List D → GH → QK → Prop) (r : V → List V → Hp → VK → Prop) : Prop :=
  ∀ x (d : R) xs ds B H g Q0 Q, Rep K (hide H B) g x d.fz → Reps K (hide H B) g xs ds → Vw K B H g → f d ds g Q0 → Cont K B H g Q0 Q → r x xs H Q
theorem trk_lst {K : PySem.W.Frag} {B : List Addr} {H : Hp} {g : GH} {p : Addr} {xs : List D} (w : Vw K B H g) (h : g p = some (.lst xs)) : ∃ vs, H p = some (.lst vs) ∧ Reps K (hide H B) g vs xs := by
  obtain ⟨u, hu, r⟩ := w.rg p _ h
  cases r with
  | lst r => exact ⟨_, (of_hide hu).1, r⟩
theorem Cont.write {K : PySem.W.Frag} {B : List Addr} {H : Hp} {g : GH} {Q0 : QK} {Q : VK} {p : Addr} {xs zs : List D} {vs ws : List V} {d : D} {v : V} (c : Cont K B H g Q0 Q) (w : Vw K B H g) (hp : H p = some (.lst vs)) (gp : g p = some (.lst xs))
    (q : Q0 (.v d) (gup g p (.lst zs))) (rz : Reps K (hide H B) g ws zs) (rd : Rep K (hide H B) g v d) : Q v (upd H p (.lst ws)) := by
  obtain ⟨f, w'⟩ := Fr.writeV (u' := .lst ws) (o' := .lst zs) hp gp (fun _ e => by cases e) (fun _ _ e => by cases e) w (.lst rz)
  exact c (.v d) _ _ _ q (rd.fv w f) w' f .no
theorem Mth.ok (X : Cx) (hu : X.A.units + 65 < cLine) (m : Mth) : ∃ r, MtR X m.id r ∧ MtOk X.K m.f r := by
  cases m with
  | join => exact ⟨_, mt_join, fun x d xs ds B H g Q0 Q rx rs w q c => by
      unfold Mth.f at q
      dsimp only at q
      split at q
      · obtain ⟨ys, hl, hz, q⟩ := q
        match rs with
        | .cons r .nil =>
          obtain ⟨a, vs, rfl, rv, h⟩ := rd_lt w r hl
          obtain rfl := rv.str_inv
          refine ⟨_, a, ys, str_of rx, rfl, ?_, hz, c.here q (.str _) w⟩
          rcases h with h | ⟨h, _⟩
          · exact .inl (.inl (.inl h))
          · exact .inr h
      · exact q.elim⟩
  | split => exact ⟨_, mt_split, fun x d xs ds B H g Q0 Q rx rs w q c => by
      unfold Mth.f at q
      dsimp only at q
      split at q
      · match rs with
        | .cons r .nil =>
          cases r
          exact ⟨_, _, str_of rx, rfl, q.1, q.2.1, fun p hp => c.newL q.2.2 (Reps.strs _) w p hp⟩
      · exact q.elim⟩
  | partition => exact ⟨_, mt_partition, fun x d xs ds B H g Q0 Q rx rs w q c => by
      unfold Mth.f at q
      dsimp only at q
      split at q
      · match rs with
        | .cons r .nil =>
          cases r
          exact ⟨_, _, str_of rx, rfl, q.1, q.2.1, fun p hp => c.newT q.2.2 (.cons (.str _) (.cons (.str _) (.cons (.str _) .nil))) w p hp⟩
      · exact q.elim⟩
  | upper => exact ⟨_, mt_upper, fun x d xs ds B H g Q0 Q rx rs w q c => by
      unfold Mth.f at q
      dsimp only at q
      split at q
      · match rs with
        | .nil => exact ⟨_, str_of rx, rfl, q.1, c.here q.2 (.str _) w⟩
      · exact q.elim⟩
  | count => exact ⟨_, mt_countD hu, fun x d xs ds B H g Q0 Q rx rs w q c => by
      unfold Mth.f at q
      dsimp only at q
      split at q
      · obtain ⟨ys, ha, k1, k2, q⟩ := q
        match rs with
        | .cons r .nil =>
          obtain ⟨h1, h2⟩ := fInD_dp w.un rx.un ha k1
          obtain ⟨a, vs, rfl, _, _⟩ := lstOf.rep w.rg rx ha
          exact ⟨a, _, _, _, rfl, rfl, h1, r.un.dp 64 k2, h2, okD_shaped k2, by rw [pds_count]; exact c.here q (.int _) w⟩
      · exact q.elim⟩
  | index => exact ⟨_, mt_indexD hu, fun x d xs ds B H g Q0 Q rx rs w q c => by
      unfold Mth.f at q
      dsimp only at q
      split at q
      · obtain ⟨ys, j, ha, k1, k2, hj, q⟩ := q
        match rs with
        | .cons r .nil =>
          obtain ⟨h1, h2⟩ := fInD_dp w.un rx.un ha k1
          obtain ⟨a, vs, rfl, _, _⟩ := lstOf.rep w.rg rx ha
          obtain ⟨⟨z, e1, e2⟩, e3⟩ := idxD_spec hj
          exact ⟨a, _, _, _, j, _, rfl, rfl, h1, r.un.dp 64 k2, h2, okD_shaped k2, by rw [pds_get, e1]; rfl, e2, fun m z' hm hz => by
            rw [pds_get] at hz
            cases e : ys[m]? with
            | none => rw [e] at hz; cases hz
            | some y => rw [e] at hz; cases hz; exact e3 m y hm e, c.here q (.int _) w⟩
      · exact q.elim⟩
  | append => exact ⟨_, mt_append, fun x d xs ds B H g Q0 Q rx rs w q c => by
      unfold Mth.f at q
      dsimp only at q
      split at q
      · obtain ⟨ys, hg, hz, q⟩ := q
        cases rx
        obtain ⟨vs, hp, rv⟩ := trk_lst w hg
        match rs with
        | .cons r .nil => exact ⟨_, vs, _, rfl, rfl, hp, by rw [rv.length]; exact hz, c.write w hp hg q (rv.append (.one r)) .non⟩
      · exact q.elim⟩
  | popAt => exact ⟨_, mt_popAt, fun x d xs ds B H g Q0 Q rx rs w q c => by
      unfold Mth.f at q
      dsimp only at q
      split at q
      · obtain ⟨ys, k, y, hg, h1, h2, hk, hy, q⟩ := q
        cases rx
        obtain ⟨vs, hp, rv⟩ := trk_lst w hg
        match rs with
        | .cons r .nil =>
          cases r
          obtain ⟨v, hv, ry⟩ := rv.get hy
          exact ⟨_, vs, _, k, v, rfl, rfl, hp, h1, h2, by rw [rv.length]; exact hk, hv, c.write w hp hg q (rv.eraseIdx k) ry⟩
      · exact q.elim⟩
  | pop => exact ⟨_, mt_pop, fun x d xs ds B H g Q0 Q rx rs w q c => by
      unfold Mth.f at q
      dsimp only at q
      split at q
      · obtain ⟨ys, y, hg, hy, q⟩ := q
        cases rx
        obtain ⟨vs, hp, rv⟩ := trk_lst w hg
        match rs with
        | .nil =>
          obtain ⟨v, hv, ry⟩ := rv.get hy
          exact ⟨_, vs, v, rfl, rfl, hp, by rw [rv.length]; exact hv, c.write w hp hg q rv.dropLast ry⟩
      · exact q.elim⟩
  | clear => exact ⟨_, mt_clear, fun x d xs ds B H g Q0 Q rx rs w q c => by
      unfold Mth.f at q
      dsimp only at q
      split at q
      · obtain ⟨ys, hg, q⟩ := q
        cases rx
        obtain ⟨vs, hp, rv⟩ := trk_lst w hg
        match rs with
        | .nil => exact ⟨_, vs, rfl, rfl, hp, c.write w hp hg q .nil .non⟩
      · exact q.elim⟩
  | extend => exact ⟨_, mt_extend, fun x d xs ds B H g Q0 Q rx rs w q c => by
      unfold Mth.f at q
      dsimp only at q
      split at q
      · obtain ⟨ys, zs, hg, hl, hz, q⟩ := q
        cases rx
        obtain ⟨vs, hp, rv⟩ := trk_lst w hg
        match rs with
        | .cons r .nil =>
          obtain ⟨b, ws, rfl, hb, rb⟩ := hl.rep w.rg (r := .v _) r
          exact ⟨_, b, vs, ws, rfl, rfl, hp, (of_hide hb).1, by rw [rv.length, rb.length]; exact hz, c.write w hp hg q (rv.append rb) .non⟩
      · exact q.elim⟩
theorem Mth.slot : ∀ m : Mth, Slot m.kd m.nm m.id
  | .append => PySem.F.slot_list_append
  | .popAt | .pop => PySem.F.slot_list_pop
  | .clear => PySem.F.slot_list_clear
  | .extend => PySem.F.slot_list_extend
  | .count => PySem.F.slot_list_count
  | .index => PySem.F.slot_list_index
  | .join => PySem.F.slot_str_join
  | .split => PySem.F.slot_str_split
  | .partition => PySem.F.slot_str_partition
  | .upper => PySem.F.slot_str_upper
theorem Mth.ty : ∀ m : Mth, typeOf (.builtin m.id) = pure (.type "method_descriptor")
  | .append => PySem.F.type_list_append
  | .popAt | .pop => PySem.F.type_list_pop
  | .clear => PySem.F.type_list_clear
  | .extend => PySem.F.type_list_extend
  | .count => PySem.F.type_list_count
  | .index => PySem.F.type_list_index
  | .join => PySem.F.type_str_join
  | .split => PySem.F.type_str_split
  | .partition => PySem.F.type_str_partition
  | .upper => PySem.F.type_str_upper
theorem Mth.pa : ∀ m : Mth, PlainAttrs m.kd
  | .append | .popAt | .pop | .clear | .extend | .count | .index => PySem.F.plainAttrs_list
  | .join | .split | .partition | .upper => PySem.F.plainAttrs_str
section
variable {X : Cx} {p pos apos : Pos} {e o : Expr} {es : List Expr} {tr : TAD} {ta tb tv : TD} {W : L2.WX} {E : L2.St → XK}
theorem mt_imp {K : PySem.W.Frag} {T : String} {f : R → List D → GH → QK → Prop} {r : V → List V → Hp → VK → Prop} (hr : MtOk K f r) {σ : L2.St} {H : Hp} {Q : VK} (h : LE K E (fMt T f ta tr) σ H Q) : tBM K T r (LE K E ta) (LA K E tr) σ H Q := by
  obtain ⟨B, ρ, g, Q0, W0, rs, rg, t, c, xc⟩ := h
  refine ⟨B, ρ, g, _, W0, rs, rg, t, fun d g1 x H1 ⟨hk, hb⟩ rd w1 f1 _ => ?_, xc⟩
  have rd' : Rep K (hide H1 B) g1 x (R.v d.fz).fz := rd
  have ty : tyV K T x H1 := by
    generalize d.fz = z at hk rd
    unfold isKd at hk
    split at hk
    · rename_i e
      cases e
      cases rd
      exact hk
    · obtain ⟨rfl, zs, hl⟩ := hk
      obtain ⟨a, vs, rfl, ha, _⟩ := lstOf.rep w1.rg (r := .v z) rd hl
      exact .inl ⟨rfl, vs, .inl (.inl (of_hide ha).1)⟩
  exact ⟨ty, B, ρ, g1, _, W0, rs.fv rg f1, w1, hb, fun ds g2 ys H2 hf re w2 f2 => hr _ (.v d.fz) ys ds B H2 g2 Q0 Q (rd.fv w1 f2) re w2 hf (c.after (f1.trans f2)), xc.after f1⟩
/-- o[i] = e, o a list that is tracked -/
def wPut (to ti te : TD) : TSD := fun D ρ g => te ρ g (fun r g1 => to ρ g1 (fun x g2 => ti ρ g2 (fun y g3 => match x, y with
  | .v (.ref p), .v (.int i) => ∃ xs j, g3 p = some (.lst xs) ∧ ixN xs.length i = some j ∧ D.nx ρ (gup g3 p (.lst (xs.set j r.fz)))
  | _, _ => False) (fun x g4 => D.ex x ρ g4)) (fun x g4 => D.ex x ρ g4)) (fun x g4 => D.ex x ρ g4)
theorem put_imp {K : PySem.W.Frag} {W : L2.WX} {to ti te : TD} {D : Ends} {σ : L2.St} {H : Hp} (h : LS K W (wPut to ti te) D σ H) : tAsg (LE K (WE W) te) (gSub (LE K (WE W) to) (LE K (WE W) ti) rSetL) D σ H := by
  obtain ⟨B, ρ, g, D0, rs, w, q, k⟩ := h
  refine ⟨B, ρ, g, _, _, rs, w, q, fun r g1 v H1 hq rv w1 f1 _ => ?_, k.xc rs w⟩
  refine ⟨B, ρ, g1, _, _, rs.fv w f1, w1, hq, fun x g2 ov H2 hq rx w2 f2 _ => ?_, (k.after f1).xc (rs.fv w f1) w1⟩
  refine ⟨B, ρ, g2, _, _, rs.fv w (f1.trans f2), w2, hq, fun y g3 iv H3 hq ry w3 f3 _ => ?_, (k.after (f1.trans f2)).xc (rs.fv w (f1.trans f2)) w2⟩
  dsimp only at hq
  split at hq
  · obtain ⟨xs, j, hg, hj, hq⟩ := hq
    have rx3 := rx.fv w2 f3
    cases rx3
    obtain ⟨vs, hp, rvs⟩ := trk_lst w3 hg
    have f123 := f1.trans (f2.trans f3)
    obtain ⟨f4, w4⟩ := Fr.writeV (u' := .lst (vs.set j v)) (o' := .lst (xs.set j r.fz)) hp hg (fun _ e => by cases e) (fun _ _ e => by cases e) w3 (.lst (rvs.set (rv.fv w1 (f2.trans f3)) j))
    exact ⟨_, vs, _, j, rfl, int_of ry, hp, by rw [rvs.length]; exact hj, k.nx ρ _ σ _ hq (rs.fv w (f123.trans f4)) w4 (f123.trans f4)⟩
  · exact hq.elim
end

/-! ### a def by its body -/
/-- what a body hands back: a list that it made itself may be given as a new one -/
def RetOk (g0 : GH) (Q : QK) : QK := fun r g' => ∃ r' g'', (∀ b o, g'' b = some o → g' b = some o) ∧
  (r' = r ∨ ∃ p ds, r = .v (.ref p) ∧ r' = .tl ds ∧ g' p = some (.lst ds) ∧ g0 p = none ∧ g'' p = none) ∧ Q r' g''
def XRet (W : XKD) : Exn → DEnv → GH → Prop := fun x _ g' => ∃ g'', (∀ b o, g'' b = some o → g' b = some o) ∧ W x g''
def bodyEnds (g : GH) (Q : QK) (W : XKD) : DEnds := ⟨fun _ g' => RetOk g Q (.v .non) g', RetOk g Q, fun _ _ => False, XRet W⟩
def startD (n : Nat) (ds : List D) : DEnv := ds.map some ++ List.replicate (n - ds.length) none
theorem repS_start {K : PySem.W.Frag} {H : Hp} {g : GH} {N : List Str} {vs : List V} {ds : List D} (r : Reps K H g vs ds) : RepS K H g (L2.start N vs) (startD N.length ds) := by
  unfold L2.start startD
  rw [r.length]
  refine ⟨by simp [r.length], fun i d h => ?_⟩
  by_cases hi : i < ds.length
  · rw [List.getElem?_append_left (by simpa using hi), List.getElem?_map] at h
    cases e : ds[i]? with
    | none => rw [e] at h; cases h
    | some d' =>
      rw [e] at h
      cases h
      obtain ⟨v, hv, q⟩ := r.get e
      exact ⟨v, by rw [List.getElem?_append_left (by rw [List.length_map, r.length]; exact hi), List.getElem?_map, hv]; rfl, q⟩
  · rw [List.getElem?_append_right (by simpa using hi), List.getElem?_replicate] at h
    split at h <;> cases h
theorem rep_less {K : PySem.W.Frag} {H : Hp} {g g' : GH} (s : ∀ b o, g' b = some o → g b = some o) {v : V} {d : D} (x : Rep K H g v d) : Rep K H g' v d := x.mono (fun _ _ h => h) (fun _ _ _ h => h) fun _ _ h k => ⟨h, none_less s k⟩
theorem Cont.ret {K : PySem.W.Frag} {B : List Addr} {H : Hp} {g : GH} {Q0 : QK} {Q : VK} (c : Cont K B H g Q0 Q) : Cont K B H g (RetOk g Q0) Q := by
  rintro r g' v H' ⟨r', g'', s, h, q⟩ rr w f fr
  rcases h with rfl | ⟨p, ds, rfl, rfl, hp, h0, hn⟩
  · refine c _ g'' v H' q (rep_less s rr) (w.less s) (f.trans (Fr.less s)) fun ds e => ?_
    obtain ⟨a, vs, H0, e1, e2, e3, e4, e5, e6⟩ := fr ds e
    refine ⟨a, vs, H0, e1, e2, e3, e4, fun b o z => ?_, e6.monoR fun _ _ x => rep_less s x⟩
    obtain ⟨u, hu, r⟩ := e5 b o (s b o z)
    exact ⟨u, hu, r.mono fun _ _ x => rep_less s x⟩
  · cases rr
    obtain ⟨u, hu, ru⟩ := w.rg p _ hp
    cases ru with
    | @lst vs _ ru =>
      have hH : H p = none := by
        cases e : H p with
        | none => rfl
        | some o =>
          have := (f.keep p o e h0).2
          rw [hp] at this; cases this
      have hB := (of_hide hu).2
      -- all else as it is seen without the object at p
      have m : ∀ v d, Rep K (hide H' B) g' v d → Rep K (hide H' (p :: B)) g'' v d := fun v d x => by
        have k : ∀ b o, hide H' B b = some o → b ≠ p → hide H' (p :: B) b = some o := fun b o h z => by
          obtain ⟨h1, h2⟩ := of_hide h
          rw [hide_out fun m => (List.mem_cons.mp m).elim z h2]; exact h1
        exact x.mono (fun a ws h => k a _ h fun e => by rw [e, hu] at h; cases h) (fun a o u h => k a _ h fun e => by rw [e, hu] at h; cases h) fun a ws h z => ⟨k a _ h (fun e => nomatch (show (some (DO.lst ds) : Option DO) = none by rw [← hp, ← e]; exact z)), none_less s z⟩
      have h0' : ∀ b w, hide H' (p :: B) b = some w → b ≠ p ∧ hide H' B b = some w := fun b w h => by
        obtain ⟨h1, h2⟩ := of_hide h
        exact ⟨fun e => h2 (by rw [e]; exact List.mem_cons_self), by rw [hide_out fun m => h2 (List.mem_cons_of_mem _ m)]; exact h1⟩
      have un : ∀ v d, Rep K (hide H' (p :: B)) g'' v d → Rep K (hide H' B) g'' v d := fun v d x => x.mono (fun a ws h => (h0' _ _ h).2) (fun a o u h => (h0' _ _ h).2) fun a ws h z => ⟨(h0' _ _ h).2, z⟩
      refine c (.tl ds) g'' _ H' q (.lst hu hn (ru.monoR fun v d x => un v d (m v d x))) (w.less s) (f.trans (Fr.less s)) fun ds' e => ?_
      cases e
      refine ⟨p, vs, hide H' (p :: B), rfl, hH, (of_hide hu).1, h0', fun b o z => ?_, ru.monoR m⟩
      obtain ⟨u', hu', r⟩ := w.rg b o (s b o z)
      have hb : b ≠ p := fun e => by rw [e, hn] at z; cases z
      refine ⟨u', ?_, r.mono m⟩
      obtain ⟨h1, h2⟩ := of_hide hu'
      rw [hide_out fun m => (List.mem_cons.mp m).elim hb h2]; exact h1
theorem ExOk.less {K : PySem.W.Frag} {H : Hp} {g g' : GH} (s : ∀ b o, g' b = some o → g b = some o) {x : Exn} {c : Value} {d : Option Addr} (h : ExOk K H g x c d) : ExOk K H g' x c d := by
  cases h with
  | plain h => exact .plain h
  | dict h h1 h2 => exact .dict h h1 (none_less s h2)
section
variable {P : Program} {w : World} {K : PySem.W.Frag} {mg : Str → Option Value} {base : Heap}
/-- THE RULE: a def keeps its promise by its body -/
theorem fn_ok {x qual : Str} {pm : Arguments} {bd : List Stmt} {sc : Scope} {f : Addr} {fd : FuncData} {N ps : List Str} {k : Nat} {sp : GSp} {t : TSD} (F : FunD K x qual pm bd sc [] [] f fd) (S : FnScope N ps sc) (len : ∀ ds g Q W, sp ds g Q W → ds.length = ps.length)
    (hb : ∀ (cdv : Value) (A : Around) (outer : List PySem.Env) (s : Shared) (H : Hp) (Z : XK), A.guards = some [] → Room k (A.deeper (PyProof.Rows.envOfC qual sc s.heap.objs.size f cdv)) →
      PSs (cxOf (L2.CX P w) P w K mg base N qual sc f cdv A outer s H Z) bd (LS K (fun cls d _ H => Z cls d H) t))
    (hw : ∀ ds g Q W, sp ds g Q W → t (bodyEnds g Q W) (startD N.length ds) g) : FnG P w K mg base (k + 1) f fd ps sp := by
  obtain ⟨oc, od, dV, kV, doc, pm', an, cdv, ct, osl, rfl, lk, hcd, _, _⟩ := F.ex
  refine ⟨len, fun A outer s H args us vs Q Z gu hr e0 hbd r h => ?_⟩
  obtain ⟨B, g, ds, Q0, W0, w0, rr, hs, c, xc⟩ := h
  have hl : vs.length = ps.length := by rw [rr.length]; exact len ds g Q0 W0 hs
  have KX : K.In s.heap := e0.mod.kin.keeps fun b o e => (e0.bs b o e).1
  have kinds : ∀ y ∈ ps.zip us, sc.names.lookup y.1 = some .local ∨ (sc.names.lookup y.1 = some .cell ∧ ((PySem.cellsFrom (s.heap.objs.size + 1) sc.names []).lookup y.1).isSome = true) := by
    rintro ⟨n, v⟩ hy
    exact (S.par n (List.of_mem_zip hy).1).imp id fun q => ⟨q, PySem.W.cellsFrom_some _ _ _ (.inl q)⟩
  refine codeAny_call_function hr.depth (KX _ _ lk) rfl S.co S.gen rfl (PySem.W.codeRec_of KX hcd) (hbd _ _ _ _ ?_)
  refine wpAny_newFunctionEnv_cells S.kind kinds ?_
  rintro _ rfl s1 x1
  refine ⟨(e0.mod.nolimit.keeps fun b o e => (e0.bs b o e).1).keeps x1.toInCall.keep, codeAny_func ?_⟩
  have I := inv_start (CX := L2.CX P w) (E := Z) S hr.hd e0 hl r x1
  refine wpAny_mono ((hb cdv A outer s H Z gu (hr.deeper _)).run [] s1 _ H ⟨fun _ H' => Q .non H', Q, fun _ _ => False, fun _ _ => False⟩ I ?_) ?_ fun _ _ q => q
  · refine ⟨B, startD N.length ds, g, bodyEnds g Q0 W0, repS_start rr, w0, hw ds g Q0 W0 hs, ⟨fun ρ' g' σ' H' q rs w' f => ?_, c.ret, fun _ _ _ _ q => q.elim, fun x ρ' g' cls d σ' H' ⟨g'', s, q⟩ xo rs w' f => ?_⟩⟩
    · exact c.ret (.v .non) g' .non H' q .non w' f .no
    · exact xc x g'' cls d H' q (xo.less s) (w'.less s) (f.trans (Fr.less s))
  · intro fl s2 q
    match fl, q with
    | .next, q =>
      obtain ⟨σ', H', J, q⟩ := q
      exact ⟨.non, H', J.os, J.bare, J.base, J.hok, rfl, q⟩
    | .brk, q | .cont, q => obtain ⟨_, _, _, q⟩ := q; exact q.elim
    | .ret u, q =>
      obtain ⟨v, σ', H', J, rv, q⟩ := q
      exact ⟨v, H', J.os, J.bare, J.base, J.hok, rv, q⟩
end

/-! ### the law's own call -/
theorem law_end {P : Program} {w : World} {K : PySem.W.Frag} {mg mb : Str → Option Value} {k : Nat} {fa a : Addr} {fd : FuncData} {x : Str} {sp : GSp} {s1 : Shared} {vs : List Value} {ns : List Int} (KX : K.In s1.heap) (hns : s1.heap.Ns mainGlobals mg) (hb : s1.heap.Ns builtinsNs mb)
    (hbb : ∀ x : Str, x ≠ "__name__" → mb x = bootBuiltins x) (hlim : s1.heap.NoLimit) (hg : s1.gens = #[]) (ha : s1.heap.get? a = some { cls := .type "list", data := .seq vs.toArray }) (hi : PyProof.Rows.IntsAre vs ns) (hl : ns.length ≤ sizeLine) (hr : Room k callerA)
    (F : ∀ base : Heap, K.In base → base.Ns mainGlobals mg → FnG P w K mg base k fa fd [x] sp) (hbind : ∀ (s : Shared) (u : Value), BindsTo s fd ⟨[u], []⟩ [(x, u)])
    (hsp : sp [.rl (ns.map .int)] (fun _ => none) (fun r _ => r = .v (.bl true)) fun _ _ => False) :
    codeAny (model P w) callerA (.call (.ref fa) ⟨[.ref a], []⟩) (fun r s' => r = .ok (.ret (.bool true)) ∧ OldK s1.heap s'.heap ∧ s'.os = s1.os ∧ PyProof.Rows.AllBare s'.gens) s1 := by
  have rv := vals_ints hi
  -- whatever is tracked, if it is no more than the script
  suffices go : ∀ H : Hp, (∀ b u, H b = some u → b = a ∧ ∃ o, u = .frz o (.lst (ns.map V.int))) → (∀ b, H b ≠ none → K.lookup b = none) → HOk P w H s1.heap → SqR K H a (ns.map V.int) →
      codeAny (model P w) callerA (.call (.ref fa) ⟨[.ref a], []⟩) (fun r s' => r = .ok (.ret (.bool true)) ∧ OldK s1.heap s'.heap ∧ s'.os = s1.os ∧ PyProof.Rows.AllBare s'.gens) s1 by
    cases hk : K.lookup a with
    | some o =>
      have e := KX a o hk
      rw [ha] at e; cases e
      refine go (fun _ => none) (fun _ _ z => nomatch z) (fun _ z => absurd rfl z) (fun _ _ z => nomatch z) (.inr ⟨_, vs.toArray, _, hk, rfl, rfl, rfl, ?_, by simpa using rv⟩)
      rw [List.size_toArray, hi.length]; exact hl
    | none =>
      let ob : Obj := { cls := .type "list", data := .seq vs.toArray }
      have at_a : ∀ b u, (if b = a then some (HO.frz ob (.lst (ns.map V.int))) else none) = some u → b = a ∧ u = .frz ob (.lst (ns.map V.int)) := fun b u z => by
        split at z
        · rename_i e; cases z; exact ⟨e, rfl⟩
        · cases z
      refine go (fun b => if b = a then some (.frz ob (.lst (ns.map V.int))) else none) (fun b u z => ⟨(at_a b u z).1, ob, (at_a b u z).2⟩) (fun b z => ?_) (fun b u z => ?_) (.inl ⟨ob, if_pos rfl⟩)
      · cases e : (if b = a then some (HO.frz ob (.lst (ns.map V.int))) else none) with
        | none => exact absurd e z
        | some u => rw [(at_a b u e).1]; exact hk
      · obtain ⟨rfl, rfl⟩ := at_a b u z
        exact ⟨ha, by rw [List.length_map]; exact hl, vs, _, rv, ha⟩
  intro H hO hK hok hS
  have base_of : ∀ {b : Addr} {o : Obj}, s1.heap.get? b = some o → (∀ z n, o.data ≠ .seq z n) → (hidT s1.heap H).get? b = some o := fun {b o} e d => hidT_get e (by
    cases q : H b with
    | none => rfl
    | some u =>
      obtain ⟨rfl, _⟩ := hO b u q
      rw [ha] at e; cases e
      exact absurd rfl (d _ _))
  have ns_of : ∀ {b : Addr} {m : Str → Option Value}, s1.heap.Ns b m → (hidT s1.heap H).Ns b m := by
    rintro b m ⟨o, es, ep, e, d, r⟩
    exact ⟨o, es, ep, base_of e (fun z n q => by rw [d] at q; cases q), d, r⟩
  have hKb : K.In (hidT s1.heap H) := fun b o e => hidT_get (KX b o e) (by
    cases q : H b with
    | none => rfl
    | some u =>
      have := hK b (by rw [q]; simp)
      rw [this] at e; cases e)
  have e0 : Env0 P w K mg (hidT s1.heap H) callerA [] s1 H := by
    obtain ⟨mc, l1, l2⟩ := hlim
    exact ⟨rfl, ⟨hKb, ns_of hns, ⟨mb, ns_of hb, hbb⟩, ⟨mc, ns_of l1, l2⟩⟩, fun b o e => of_hidT e, Nat.le_of_eq (hidT_size _ _), trivial, fun b z => absurd (show b ∈ ([] : List Addr) from z) (by simp), hok, .of_eq hg⟩
  have w0 : Vw K [] H (fun _ => none) := ⟨fun b z => absurd z (by simp), fun _ _ z => nomatch z⟩
  have hH : hide H [] = H := by funext b; exact hide_out (by simp)
  refine codeAny_mono ((F _ hKb (ns_of hns)).go callerA [] s1 H ⟨[.ref a], []⟩ [.ref a] [.ref a] (fun v H' => v = .bl true) (fun _ _ _ => False) rfl hr e0 (hbind s1 _) (.cons rfl .nil)
    ⟨[], fun _ => none, _, _, _, w0, .cons (.rl (by rw [hH]; exact hS) (Reps.ints ns)) .nil, hsp, fun d g' v H' q r _ _ _ => by subst q; exact bl_of r, fun _ _ _ _ _ q => q.elim⟩) fun r s2 q => ?_
  match r, q with
  | .error x, q =>
    obtain ⟨_, _, _, _, _, _, _, _, _, _, _, _, z⟩ := q
    exact z.elim
  | .ok .next, q | .ok .brk, q | .ok .cont, q => exact False.elim q
  | .ok (.ret u), q =>
    obtain ⟨v, H', os, bare, un, hok', r', q⟩ := q
    subst q
    obtain rfl : u = Value.bool true := r'
    refine ⟨rfl, OldK.of_keep fun b o e => ?_, os, bare⟩
    cases q : H b with
    | none => exact un.keep b o e q (fun z => absurd (show b ∈ ([] : List Addr) from z) (by simp)) (by simp)
    | some u =>
      obtain ⟨rfl, ob, rfl⟩ := hO b u q
      have e1 := (hok _ _ q).1
      have e2 := (hok' _ _ (un.frzs _ ob _ q)).1
      rw [e] at e1; cases e1
      exact e2
/-- the row's end: F gives the written part, the law's function and its promise -/
theorem walk_end {l : PySem.W.OpenLaw} {n k : Nat} {q : Program} {loose : List Str} {XP : (Str → Option Value) → Heap → Prop} {YP : World → Heap → Prop} {d : DefRec} {x : Str} (hn : l.most = some n) (hn2 : n ≤ sizeLine) (hdf : d.params.defaults = []) (hr : Room k callerA)
    (F : ∀ (w : World) (mg : Str → Option Value) (fa : Addr) (h : Heap), YP w h → h.Ns mainGlobals mg → mg d.name = some (.ref fa) →
      ∃ (K : PySem.W.Frag) (fd : FuncData) (sp : GSp), K.In h ∧ (∀ (s : Shared) (u : Value), BindsTo s fd ⟨[u], []⟩ [(x, u)]) ∧
        (∀ ns : List Int, ns.length ≤ n → sp [.rl (ns.map .int)] (fun _ => none) (fun r _ => r = .v (.bl true)) fun _ _ => False) ∧ ∀ base : Heap, K.In base → base.Ns mainGlobals mg → FnG l.prog w K mg base k fa fd [x] sp) :
    PySem.W.WalkO q loose XP YP l.row.toRowW d [] (fun f vs => PySem.call f vs) := by
  refine Att.attach_call hn hdf ?_
  intro w s0 s1 mg mb fa o pm cd doc a vs ns G Y ho hd hcd hmg hobj hints hlen hg
  obtain ⟨K, fd, sp, KX, hb, hsp, hF⟩ := F w mg fa _ Y G.T.g hmg
  exact law_end KX G.T.g G.T.b G.T.builtins G.T.nolimit hg hobj hints (Nat.le_trans hlen hn2) hr hF hb (hsp ns hlen)
end G3
/-! G3mx: max(.., default=d) of a list of whole numbers -/
namespace G3
open PySem PySem.Spec PyProof.Rows L2
abbrev dfK (d : Value) : List (Str × Value) := [(Str.ofString "default", d)]
abbrev bestO (xs : List Value) (c : Nat) : Obj := { cls := .type "list", dict := none, data := .seq xs.toArray c, slots := #[] }
theorem mx_name : (toString "max" ++ toString ".loop" : String) = "max.loop" := by decide
section
variable {P : Program} {w : World} {A : Around} {S I : Addr} {fp wr : List Addr} {n : Nat} {F0 : Nat → Value → Prop} {St : Nat → Heap → Prop} {bt : Nat → Nat → Bool} {d : Value} {R : Result → Shared → Prop}
/-- one was seen: the loop goes on -/
theorem maxD_on (wk : Walks P w A.in1 I fp wr n F0 St) (cmp : CmpOf P w A.in1 .Gt F0 bt) (off : S ∉ fp) : ∀ (m i : Nat) (s : Shared) (top : Value) (c : Nat), i + m = n → 1 ≤ i → St i s.heap → F0 (argBest bt (i - 1)) top → s.heap.get? S = some (bestO [top, top] c) →
    (∀ v h' tk, F0 (argBest bt (n - 1)) v → (∀ b o, b ∉ wr → b ≠ S → s.heap.get? b = some o → h'.get? b = some o) → R (.ok (.ret v)) { s with heap := h', toks := tk }) → codeAny (model P w) A (.builtin "max.loop" ⟨[.ref I, .none, .ref S], dfK d⟩) R s := by
  have free : S ∉ wr := fun z => off (wk.sub _ z)
  intro m
  induction m with
  | zero =>
    intro i s top c him h1 st best at_S fin
    have ein : i = n := by omega
    subst ein
    refine codeAny_builtin F.entry_max_loop (?_ : wpAny _ _ _ _ _ _)
    rw [Around.under_plainId (F.plain_max_loop) _]
    show wpAny _ A.in1 (seqItems? (Value.ref S) >>= _) _ _ _
    refine wpAny_bind (wpAny_seqItems at_S rfl (?_ : _))
    show wpAny _ A.in1 (tryCatch (pyNext (Value.ref I)) _ >>= _) _ _ _
    refine wpAny_bind (wpAny_tryCatch (wk.done s _ _ st fun h1 tk1 kept => ?_))
    have at_S1 := kept S _ free at_S
    show wpAny _ A.in1 (updateSeq S (fun (_ : Array Value) => #[]) >>= _) _ _ _
    refine wpAny_bind (wpAny_updateSeq at_S1 rfl ?_)
    refine wpAny_bind (wpAny_letGo (wpAny_pure ?_))
    exact fin top _ tk1 best fun b o bw bS z => (Heap.get?_update_other _ _ (Ne.symm bS)).trans (kept b o bw z)
  | succ m ih =>
    intro i s top c him h1 st best at_S fin
    have lt : i < n := by omega
    refine codeAny_builtin F.entry_max_loop (?_ : wpAny _ _ _ _ _ _)
    rw [Around.under_plainId (F.plain_max_loop) _]
    show wpAny _ A.in1 (seqItems? (Value.ref S) >>= _) _ _ _
    refine wpAny_bind (wpAny_seqItems at_S rfl (?_ : _))
    show wpAny _ A.in1 (tryCatch (pyNext (Value.ref I)) _ >>= _) _ _ _
    refine wpAny_bind (wpAny_tryCatch (wk.item i s _ _ lt st fun v h1 tk1 hv st1 kept => ?_))
    have at_S1 := kept S _ free at_S
    show wpAny _ A.in1 (tryCatch (holding [v, v] (richCompare CmpOp.Gt v top >>= _)) _ >>= _) _ _ _
    refine wpAny_bind (wpAny_tryCatch (wpAny_holding (wpAny_bind (cmp i (argBest bt (i - 1)) v top _ _ _ hv best ?_))))
    refine wpAny_bind (wpAny_holding (wpAny_truthy_bool (?_ : _)))
    refine wpAny_bind (wpAny_letGo (wpAny_pure (?_ : _)))
    have step : argBest bt (i + 1 - 1) = if bt i (argBest bt (i - 1)) then i else argBest bt (i - 1) := by
      obtain ⟨j, rfl⟩ : ∃ j, i = j + 1 := ⟨i - 1, by omega⟩
      rfl
    cases hb : bt i (argBest bt (i - 1)) with
    | true =>
      simp only [if_true]
      refine wpAny_bind (wpAny_updateSeq at_S1 rfl ?_)
      refine wpAny_bind (wpAny_letGo ?_)
      rw [mx_name]
      refine wpAny_pure ⟨plainId_quiet F.plain_max_loop _, ih (i + 1) _ v _ (by omega) (by omega) (wk.frame _ _ _ st1 fun b hb o z => (Heap.get?_update_other _ _ (fun e : S = b => off (e ▸ hb))).trans z) (by rw [step, hb]; exact hv) (Heap.get?_update_self _ at_S1 rfl) fun v' h2 tk2 hv' kept2 => ?_⟩
      exact fin v' h2 tk2 hv' fun b o bw bS z => kept2 b o bw bS ((Heap.get?_update_other _ _ (Ne.symm bS)).trans (kept b o bw z))
    | false =>
      simp only [Bool.false_eq_true, if_false]
      refine wpAny_bind (wpAny_letGo ?_)
      rw [mx_name]
      refine wpAny_pure ⟨plainId_quiet F.plain_max_loop _, ih (i + 1) _ top c (by omega) (by omega) st1 (by rw [step, hb]; exact best) at_S1 fun v' h2 tk2 hv' kept2 => ?_⟩
      exact fin v' h2 tk2 hv' fun b o bw bS z => kept2 b o bw bS (kept b o bw z)
/-- the first turn -/
theorem maxD_first (wk : Walks P w A.in1 I fp wr n F0 St) (cmp : CmpOf P w A.in1 .Gt F0 bt) (off : S ∉ fp) {s : Shared} {c : Nat} (st : St 0 s.heap) (at_S : s.heap.get? S = some (bestO [] c))
    (fin : ∀ v h' tk, (n = 0 → v = d) → (0 < n → F0 (argBest bt (n - 1)) v) → (∀ b o, b ∉ wr → b ≠ S → s.heap.get? b = some o → h'.get? b = some o) → R (.ok (.ret v)) { s with heap := h', toks := tk }) : codeAny (model P w) A (.builtin "max.loop" ⟨[.ref I, .none, .ref S], dfK d⟩) R s := by
  have free : S ∉ wr := fun z => off (wk.sub _ z)
  refine codeAny_builtin F.entry_max_loop (?_ : wpAny _ _ _ _ _ _)
  rw [Around.under_plainId (F.plain_max_loop) _]
  show wpAny _ A.in1 (seqItems? (Value.ref S) >>= _) _ _ _
  refine wpAny_bind (wpAny_seqItems at_S rfl (?_ : _))
  show wpAny _ A.in1 (tryCatch (pyNext (Value.ref I)) _ >>= _) _ _ _
  by_cases hn : n = 0
  · subst hn
    refine wpAny_bind (wpAny_tryCatch (wk.done s _ _ st fun h1 tk1 kept => ?_))
    refine wpAny_bind (wpAny_rule ?_)
    exact wpAny_pure (fin d h1 tk1 (fun _ => rfl) (fun z => absurd z (Nat.lt_irrefl _)) fun b o bw bS z => kept b o bw z)
  · have lt : 0 < n := by omega
    refine wpAny_bind (wpAny_tryCatch (wk.item 0 s _ _ lt st fun v h1 tk1 hv st1 kept => ?_))
    have at_S1 := kept S _ free at_S
    show wpAny _ A.in1 (updateSeq S (fun (_ : Array Value) => #[v, v]) >>= _) _ _ _
    refine wpAny_bind (wpAny_updateSeq at_S1 rfl ?_)
    rw [mx_name]
    refine wpAny_pure ⟨plainId_quiet F.plain_max_loop _, maxD_on wk cmp off (n - 1) 1 _ v _ (by omega) (by omega) (wk.frame _ _ _ st1 fun b hb o z => (Heap.get?_update_other _ _ (fun e : S = b => off (e ▸ hb))).trans z) hv (Heap.get?_update_self _ at_S1 rfl) fun v' h2 tk2 hv' kept2 => ?_⟩
    exact fin v' h2 tk2 (fun z => absurd z hn) (fun _ => hv') fun b o bw bS z => kept2 b o bw bS ((Heap.get?_update_other _ _ (Ne.symm bS)).trans (kept b o bw z))
end
theorem max_dargs (a d : Value) : argsOk "max" ⟨[a], dfK d⟩ := by unfold argsOk; kernel_rfl
section
variable {P : Program} {w : World} {A : Around} {E : Value → Shared → Prop} {s : Shared}
theorem max_dflt {l : Addr} {us : List Value} {ns : List Int} {d : Value} {Q : Value → Shared → Prop} (quiet : A.handled = none) (at_l : s.heap.IsList l us.toArray) (nums : IntsAre us ns)
    (q0 : ns = [] → ∀ h' tk, (∀ b o, s.heap.get? b = some o → h'.get? b = some o) → Q d { s with heap := h', toks := tk })
    (q1 : ∀ m t h' tk, m ∈ ns → (∀ k ∈ ns, k ≤ m) → (∀ b o, s.heap.get? b = some o → h'.get? b = some o) → Q (.int m t) { s with heap := h', toks := tk }) :
    wpAny (model P w) A (call (.builtin "max") [.ref l] (dfK d)) Q E s := by
  have sz : us.length = ns.length := IntsAre.length nums
  have older : l < s.heap.objs.size := by obtain ⟨_, e, _⟩ := at_l; exact Heap.lt_size e
  refine PyProof.Rows.kmk_tree F.kind_max F.plain_max F.entry_max (max_dargs _ _) ?_
  show wpAny _ A.in1 (Builtin.Builtins.bindParams "max" ["key", "default"] 0 ⟨[], dfK d⟩ >>= _) _ _ s
  refine wpAny_bind (wpAny_of_eq (show Builtin.Builtins.bindParams "max" ["key", "default"] 0 ⟨[], dfK d⟩ = pure [none, some d] from rfl) ?_)
  refine wpAny_bind (wpAny_pure ?_)
  refine wpAny_bind (wpAny_pyIter_list at_l ?_)
  refine wpAny_bind (wpAny_newObj_type ?_)
  rw [mx_name]
  have ne1 : l ≠ s.heap.objs.size := Nat.ne_of_lt older
  have wk := Walks.list (prog := P) (w := w) (A := A.in1) quiet s.heap.objs.size l ne1 us.toArray
  have val : ∀ (i : Nat) (v : Value), us.toArray[i]? = some v → ∃ t : Tok, v = Value.int (ns.getD i 0) t := fun i (v : Value) hv => by
    rw [List.getElem?_toArray] at hv
    obtain ⟨t, e⟩ := IntsAre.int_at nums i v hv
    exact ⟨t, e⟩
  refine wpAny_pure ⟨plainId_quiet F.plain_max_loop _, maxD_first wk (CmpOf.ints_gt (fun i => ns.getD i 0) val) (S := (s.heap.push _).objs.size) ?_ ⟨⟨_, Heap.get?_push_of_some _ (Heap.get?_push_size _ rfl), rfl, rfl⟩, (at_l.push _).push _⟩ (Heap.get?_push_size _ rfl) fun v h' tk e0 e1 kept => ?_⟩
  · rw [Heap.size_push]
    simp only [List.mem_cons, List.not_mem_nil, or_false, not_or]
    exact ⟨Nat.ne_of_gt (Nat.lt_succ_self _), Nat.ne_of_gt (Nat.lt_succ_of_lt older)⟩
  · have old : ∀ b o, s.heap.get? b = some o → h'.get? b = some o := fun b o z => by
      have lt := Heap.lt_size z
      refine kept b o ?_ ?_ (Heap.get?_push_of_some _ (Heap.get?_push_of_some _ z))
      · simp only [List.mem_cons, List.not_mem_nil, or_false]; exact Nat.ne_of_lt lt
      · rw [Heap.size_push]; exact Nat.ne_of_lt (Nat.lt_succ_of_lt lt)
    by_cases hn : ns = []
    · have : v = d := e0 (by rw [List.size_toArray, sz, hn]; rfl)
      subst this
      exact q0 hn h' tk old
    · have pos : 0 < us.toArray.size := by
        rw [List.size_toArray, sz]
        exact Nat.pos_of_ne_zero fun z => hn (List.eq_nil_of_length_eq_zero z)
      obtain ⟨b1, b2⟩ := argBest_gt (fun i => ns.getD i 0) (us.toArray.size - 1)
      obtain ⟨t, rfl⟩ := val _ _ (e1 pos)
      rw [List.size_toArray, sz] at b1 b2 pos ⊢
      refine q1 _ t h' tk ?_ (fun k hk => ?_) old
      · rw [List.getD_eq_getElem?_getD, List.getElem?_eq_getElem (by omega)]
        exact List.getElem_mem _
      · obtain ⟨j, hj, rfl⟩ := List.getElem_of_mem hk
        have := b2 j (by omega)
        rw [List.getD_eq_getElem?_getD, List.getElem?_eq_getElem hj] at this
        exact this
end
/-- max(xs, default=k) -/
def rMaxD (K : PySem.W.Frag) : List V → List V → Hp → VK → Prop := fun vs zs H Q => ∃ (a : Addr) (ns : List Int) (k : Int), vs = [.ref a] ∧ zs = [.int k] ∧ SqL K H a (ns.map V.int) ∧ (ns = [] → Q (.int k) H) ∧ ∀ m, m ∈ ns → (∀ j ∈ ns, j ≤ m) → Q (.int m) H
theorem cr_maxD {X : Cx} (hc : X.calm = true) : CallRK X (.builtin "max") [Str.ofString "default"] (rMaxD X.K) := by
  intro pins s σ H xs zs us ws Q I r1 r2 h
  obtain ⟨a, ns, k, e1, e2, hs, q0, q1⟩ := h
  subst e1 e2
  obtain ⟨its, rv, hl, _⟩ := I.list hs
  obtain rfl := Vals.ref1 r1
  match r2 with
  | .cons r3 .nil =>
    obtain ⟨tk, e3⟩ := r3
    subst e3
    exact max_dflt (I.ok.hd hc) hl.isList rv.ints (fun e h' tk kp => ⟨.int k, H, I.kept kp, ⟨_, rfl⟩, q0 e⟩) fun m t h' tk hm hall kp => ⟨.int m, H, I.kept kp, ⟨_, rfl⟩, q1 m hm hall⟩
/-- max(e, default=k) of a list -/
def fMaxD (k : Int) : R → GH → QK → Prop := fun x g Q => ∃ ns : List Int, lstOf g x (ns.map .int) ∧ Q (.v (.int (match ns with | [] => k | n :: ns => ns.foldl max n))) g
theorem foldl_maxD : ∀ (ns : List Int) (n : Int), ns.foldl max n ∈ n :: ns ∧ ∀ m ∈ n :: ns, m ≤ ns.foldl max n
  | [], n => ⟨by simp, by simp⟩
  | m :: ns, n => by
    obtain ⟨h1, h2⟩ := foldl_maxD ns (max n m)
    rw [List.foldl_cons]
    refine ⟨?_, fun k hk => ?_⟩
    · rcases List.mem_cons.mp h1 with h | h
      · rw [h]
        rcases Int.le_total n m with z | z
        · rw [Int.max_eq_right z]; simp
        · rw [Int.max_eq_left z]; simp
      · simp [h]
    · have h3 := h2 (max n m) List.mem_cons_self
      rcases List.mem_cons.mp hk with rfl | hk
      · exact Int.le_trans (Int.le_max_left _ _) h3
      · rcases List.mem_cons.mp hk with rfl | hk
        · exact Int.le_trans (Int.le_max_right _ _) h3
        · exact h2 k (List.mem_cons_of_mem _ hk)
theorem reps_intsM {K : PySem.W.Frag} {H : Hp} {g : GH} : ∀ {bs : List Int} {vs : List V}, Reps K H g vs (bs.map .int) → vs = bs.map V.int
  | [], _, .nil => rfl
  | b :: bs, _, .cons r t => by rw [int_of r, reps_intsM t]; rfl
theorem q_maxD {X : Cx} {W : L2.WX} {e kx : Expr} {te : TD} {k : Int} {p pos kp cp : Pos} {j : Nat} (hc : X.calm = true) (hg : Gl X "max") (hm : X.mg "max" = none) (he : PE X e (LE X.K (WE W) te)) (hs : starEach [e] X.env = [(false, eval e X.env)]) (ek : kx = .Constant (.int k) j cp) {kw : Keyword} (hkw : kw = ⟨some (Str.ofString "default"), kx, kp⟩) :
    PE X (.Call (.Name "max" p) [e] [kw] pos) (LE X.K (WE W) (wUn (fMaxD k) te)) := by
  subst ek hkw
  refine PE.of (pe_callBK (t := tCons (LE X.K (WE W) te) tNil) (tk := tCons (tC (.int k)) tNil) (cr_maxD hc) hg hm (by decide +kernel) (pa_cons he pa_nil hs) (pk_cons pe_int pk_nil) (by decide +kernel) (by decide +kernel) (by rw [hs]; rfl) (by rw [hs]; rfl)) fun σ H Q ⟨B, ρ, g, Q0, W0, rs, w, t, c, xc⟩ => ?_
  refine ⟨B, ρ, g, _, W0, rs, w, t, fun r g1 v H1 hq rv w1 f1 _ => ?_, xc⟩
  obtain ⟨ns, hl, q⟩ := hq
  obtain ⟨a, vs, rfl, ha, rr⟩ := lstOf.rep w1.rg rv hl
  obtain rfl := reps_intsM rr
  refine ⟨a, ns, k, rfl, rfl, .inl (.inl (of_hide ha).1), fun e => ?_, fun m hm hall => ?_⟩
  · subst e
    exact (c.after f1).here q (.int _) w1
  · match ns, hm, hall, q with
    | n :: ns, hm, hall, q =>
      obtain ⟨s1, s2⟩ := foldl_maxD ns n
      rw [show m = ns.foldl max n from Int.le_antisymm (s2 m hm) (hall _ s1)]
      exact (c.after f1).here q (.int _) w1
end G3
/-! G3q2: new dicts; stores into dicts -/
namespace G3
open PySem PySem.Spec PyProof.Rows L2
theorem upd_upd2 {H : Hp} {p : Addr} {u v : HO} : upd (upd H p u) p v = upd H p v := by
  funext b
  by_cases e : b = p
  · rw [e, upd_same, upd_same]
  · rw [upd_ne e, upd_ne e, upd_ne e]
/-- {x: b}, x a slot with a whole number -/
def wDis (i : Nat) (b : Bool) : TD := fun ρ g Q _ => match ρ[i]? with
  | some (some (.int n)) => ∀ p, g p = none → Q (.v (.ref p)) (gup g p (.dk [(.inl n, .bl b)]))
  | _ => False
/-- {} -/
def wDnK : TD := fun _ g Q _ => ∀ p, g p = none → Q (.v (.ref p)) (gup g p (.dk []))
/-- o[i] = e, o a dict -/
def wDput (to ti te : TD) : TSD := fun D ρ g => te ρ g (fun r g1 => to ρ g1 (fun x g2 => ti ρ g2 (fun y g3 => match x with
  | .v (.ref p) => (∃ kvs k, g3 p = some (.dk kvs) ∧ dKey y.fz = some k ∧ kvs.length < sizeLine ∧ D.nx ρ (gup g3 p (.dk (putD kvs k r.fz)))) ∨
      ∃ kvs k, g3 p = some (.dt kvs) ∧ y.fz = .tup (k.map .int) ∧ kvs.length < sizeLine ∧ D.nx ρ (gup g3 p (.dt (putD kvs (tK k) r.fz)))
  | _ => False) (fun x g4 => D.ex x ρ g4)) (fun x g4 => D.ex x ρ g4)) (fun x g4 => D.ex x ρ g4)
section
variable {X : Cx} {x : Str} {p p2 pos pos' : Pos} {k : Option Str} {e o i : Expr} {E : L2.St → XK} {W : L2.WX} {to ti te : TD}
theorem q_dis {n : Nat} {b : Bool} (h1 : PE X e (tVar n)) (h2 : PE X o (tC (.bl b))) : PE X (.Dict [some e] [o] pos) (LE X.K E (wDis n b)) :=
  PE.of (pe_disp (pps_cons h1 h2 pps_nil) rfl rfl (by simp) (by simp)) fun σ H Q ⟨B, ρ, g, Q0, W0, rs, w, t, c, xc⟩ => by
    unfold wDis at t
    split at t
    · rename_i m hm
      obtain ⟨v, hv, r⟩ := rs.at_ n _ hm
      obtain rfl := int_of r
      intro q hq
      refine ⟨_, hv, ?_⟩
      show (upd H q (.dK [])) q = _ ∧ _
      refine ⟨upd_same, [(.inl m, .bl b)], rfl, by simp, ?_⟩
      rw [upd_upd2]
      exact c.newO w hq (.dK (.cons (.bl b) .nil)) (t q)
    · exact t.elim
def wDnT : TD := fun _ g Q _ => ∀ p, g p = none → Q (.v (.ref p)) (gup g p (.dt []))
theorem q_dnT : PE X (.Dict [] [] pos) (LE X.K E wDnT) :=
  PE.of pe_dnewT fun σ H Q ⟨B, ρ, g, Q0, W0, rs, w, t, c, xc⟩ => fun q hq => c.newO w hq (.dT .nil) (t q)
theorem q_dnK : PE X (.Dict [] [] pos) (LE X.K E wDnK) :=
  PE.of pe_dnewK fun σ H Q ⟨B, ρ, g, Q0, W0, rs, w, t, c, xc⟩ => fun q hq => c.newO w hq (.dK .nil) (t q)
theorem s_dput (h : PS X (.Assign [.Subscript o i pos'] e pos) (sDPut (LE X.K (WE W) to) (LE X.K (WE W) ti) (LE X.K (WE W) te))) : PS X (.Assign [.Subscript o i pos'] e pos) (LS X.K W (wDput to ti te)) :=
  PS.of h fun D σ H ⟨B, ρ, g, D0, rs, w, q, k⟩ => by
    refine ⟨B, ρ, g, _, _, rs, w, q, fun r g1 v H1 hq rv w1 f1 _ => ?_, k.xc rs w⟩
    refine ⟨B, ρ, g1, _, _, rs.fv w f1, w1, hq, fun x g2 ov H2 hq rx w2 f2 _ => ?_, (k.after f1).xc (rs.fv w f1) w1⟩
    refine ⟨B, ρ, g2, _, _, rs.fv w (f1.trans f2), w2, hq, fun y g3 iv H3 hq ry w3 f3 _ => ?_, (k.after (f1.trans f2)).xc (rs.fv w (f1.trans f2)) w2⟩
    dsimp only at hq
    split at hq
    · have rx3 := rx.fv w2 f3
      cases rx3
      have f123 := f1.trans (f2.trans f3)
      rcases hq with ⟨kvs, key, hg, hk, hl, hq⟩ | ⟨kvs, key, hg, hk, hl, hq⟩
      rotate_left
      · obtain ⟨vs, hp, rvs⟩ := trk_dt w3 hg
        rw [hk] at ry
        obtain ⟨b, rfl, hb⟩ := tKey_rep ry
        obtain ⟨f4, w4⟩ := Fr.writeV (u' := .dT (putK vs (tK key) v)) (o' := .dt (putD kvs (tK key) r.fz)) hp hg (fun _ e => by cases e) (fun _ _ e => by cases e) w3 (.dT (rvs.put (tK key) (rv.fv w1 (f2.trans f3))))
        exact ⟨_, _, rfl, .t hp (of_hide hb).1 (by rw [rvs.len]; exact hl), k.nx ρ _ σ _ hq (rs.fv w (f123.trans f4)) w4 (f123.trans f4)⟩
      obtain ⟨vs, hp, rvs⟩ := trk_dk w3 hg
      obtain rfl := dKey_rep ry hk
      obtain ⟨f4, w4⟩ := Fr.writeV (u' := .dK (putK vs key v)) (o' := .dk (putD kvs key r.fz)) hp hg (fun _ e => by cases e) (fun _ _ e => by cases e) w3 (.dK (rvs.put key (rv.fv w1 (f2.trans f3))))
      exact ⟨_, _, rfl, .k hp (by rw [rvs.len]; exact hl), k.nx ρ _ σ _ hq (rs.fv w (f123.trans f4)) w4 (f123.trans f4)⟩
    · exact hq.elim
/-- o[i] = e, o a dict, i a tuple of whole numbers and texts -/
def wDputM (to ti te : TD) : TSD := fun D ρ g => te ρ g (fun r g1 => to ρ g1 (fun x g2 => ti ρ g2 (fun y g3 => match x with
  | .v (.ref p) => ∃ kvs k, g3 p = some (.dt kvs) ∧ y.fz = .tup (k.map keyD) ∧ kvs.length < sizeLine ∧ D.nx ρ (gup g3 p (.dt (putD kvs k r.fz)))
  | _ => False) (fun x g4 => D.ex x ρ g4)) (fun x g4 => D.ex x ρ g4)) (fun x g4 => D.ex x ρ g4)
theorem s_dputM (h : PS X (.Assign [.Subscript o i pos'] e pos) (sDPut (LE X.K (WE W) to) (LE X.K (WE W) ti) (LE X.K (WE W) te))) : PS X (.Assign [.Subscript o i pos'] e pos) (LS X.K W (wDputM to ti te)) :=
  PS.of h fun D σ H ⟨B, ρ, g, D0, rs, w, q, k⟩ => by
    refine ⟨B, ρ, g, _, _, rs, w, q, fun r g1 v H1 hq rv w1 f1 _ => ?_, k.xc rs w⟩
    refine ⟨B, ρ, g1, _, _, rs.fv w f1, w1, hq, fun x g2 ov H2 hq rx w2 f2 _ => ?_, (k.after f1).xc (rs.fv w f1) w1⟩
    refine ⟨B, ρ, g2, _, _, rs.fv w (f1.trans f2), w2, hq, fun y g3 iv H3 hq ry w3 f3 _ => ?_, (k.after (f1.trans f2)).xc (rs.fv w (f1.trans f2)) w2⟩
    dsimp only at hq
    split at hq
    · have rx3 := rx.fv w2 f3
      cases rx3
      have f123 := f1.trans (f2.trans f3)
      obtain ⟨kvs, key, hg, hk, hl, hq⟩ := hq
      obtain ⟨vs, hp, rvs⟩ := trk_dt w3 hg
      rw [hk] at ry
      obtain ⟨b, rfl, hb⟩ := mKey_rep ry
      obtain ⟨f4, w4⟩ := Fr.writeV (u' := .dT (putK vs key v)) (o' := .dt (putD kvs key r.fz)) hp hg (fun _ e => by cases e) (fun _ _ e => by cases e) w3 (.dT (rvs.put key (rv.fv w1 (f2.trans f3))))
      exact ⟨_, _, rfl, .t hp (of_hide hb).1 (by rw [rvs.len]; exact hl), k.nx ρ _ σ _ hq (rs.fv w (f123.trans f4)) w4 (f123.trans f4)⟩
    · exact hq.elim
end
end G3
/-! G3w: dicts by tuples: locked while a statement runs, walked, read, cleared -/
namespace G3
open PySem PySem.Spec PyProof.Rows L2
/-- the ends of a statement that runs while the dict at a is locked -/
def lckE (a : Addr) (od : Obj) (r : List (List Key × V)) (kvs : List (List Key × D)) (D : DEnds) : DEnds :=
  ⟨fun ρ' g' => g' a = some (.dl od r kvs) ∧ D.nx ρ' (gup g' a (.dt kvs)), fun x g' => (∃ d, x = .v d) ∧ g' a = some (.dl od r kvs) ∧ D.rt x (gup g' a (.dt kvs)),
   fun ρ' g' => g' a = some (.dl od r kvs) ∧ D.ct ρ' (gup g' a (.dt kvs)), fun _ _ _ => False⟩
/-- the statement runs while the dict in slot i is locked -/
def wLock (i : Nat) (t : TSD) : TSD := fun D ρ g => match ρ[i]? with
  | some (some (.ref a)) => ∃ kvs, g a = some (.dt kvs) ∧ ∀ od r, t (lckE a od r kvs D) ρ (gup g a (.dl od r kvs))
  | _ => False
/-- the same of an expression -/
def wLockE (i : Nat) (t : TD) : TD := fun ρ g Q W => match ρ[i]? with
  | some (some (.ref a)) => ∃ kvs, g a = some (.dt kvs) ∧ ∀ od r, t ρ (gup g a (.dl od r kvs)) (fun x g' => (∃ d, x = .v d) ∧ g' a = some (.dl od r kvs) ∧ Q x (gup g' a (.dt kvs))) fun _ _ => False
  | _ => False
section
variable {X : Cx} {st : Stmt} {e tg : Expr} {t : TSD} {te : TD} {W : L2.WX} {E : L2.St → XK} {i : Nat}
theorem unlock_ok {K : PySem.W.Frag} {B : List Addr} {H : Hp} {g : GH} {a : Addr} {od : Obj} {r : List (List Key × V)} {kvs : List (List Key × D)} (w : Vw K B H g) (h : g a = some (.dl od r kvs)) :
    H a = some (.frz od (.dT r)) ∧ Fr H g (upd H a (.dT r)) (gup g a (.dt kvs)) ∧ Vw K B (upd H a (.dT r)) (gup g a (.dt kvs)) := by
  obtain ⟨hp, rv⟩ := trk_dl w h
  obtain ⟨f, w'⟩ := Fr.writeV (u' := .dT r) (o' := .dt kvs) hp h (fun _ e => by cases e) (fun _ _ e => by cases e) w (.dT rv)
  exact ⟨hp, f, w'⟩
theorem s_lock (h : PS X st (LS X.K W t)) : PS X st (LS X.K W (wLock i t)) :=
  PS.of (ps_lock h) fun D σ H ⟨B, ρ, g, D0, rs, w, q, k⟩ => by
    unfold wLock at q
    split at q
    · rename_i a ha
      obtain ⟨kvs, hg, q⟩ := q
      obtain ⟨vs, hp, rv⟩ := trk_dt w hg
      refine ⟨a, .dT vs, hp, trivial, fun od => ?_⟩
      obtain ⟨f, w2⟩ := Fr.writeV (u' := .frz od (.dT vs)) (o' := .dl od vs kvs) hp hg (fun _ e => by cases e) (fun _ _ e => by cases e) w (.dl rv)
      refine ⟨B, ρ, _, _, rs.fv w f, w2, q od vs, ?_⟩
      refine ⟨fun ρ' g' σ' H' ⟨e, qn⟩ r' w' f' => ?_, fun x g' v H' ⟨⟨d, ed⟩, e, qn⟩ r' w' f' _ => ?_, fun ρ' g' σ' H' ⟨e, qn⟩ r' w' f' => ?_, fun x ρ' g' cls d σ' H' z => z.elim⟩
      · obtain ⟨hu, f2, w3⟩ := unlock_ok w' e
        exact ⟨hu, k.nx ρ' _ σ' _ qn (r'.fv w' f2) w3 (f.trans (f'.trans f2))⟩
      · obtain ⟨hu, f2, w3⟩ := unlock_ok w' e
        subst ed
        exact ⟨hu, k.rt (.v d) _ v _ qn (r'.fv w' f2) w3 (f.trans (f'.trans f2)) .no⟩
      · obtain ⟨hu, f2, w3⟩ := unlock_ok w' e
        exact ⟨hu, k.ct ρ' _ σ' _ qn (r'.fv w' f2) w3 (f.trans (f'.trans f2))⟩
    · exact q.elim
theorem q_lockE (h : PE X e (LE X.K E te)) : PE X e (LE X.K E (wLockE i te)) :=
  PE.of (pe_lock h) fun σ H Q ⟨B, ρ, g, Q0, W0, rs, w, q, c, xc⟩ => by
    unfold wLockE at q
    split at q
    · rename_i a ha
      obtain ⟨kvs, hg, q⟩ := q
      obtain ⟨vs, hp, rv⟩ := trk_dt w hg
      refine ⟨a, .dT vs, hp, trivial, fun od => ?_⟩
      obtain ⟨f, w2⟩ := Fr.writeV (u' := .frz od (.dT vs)) (o' := .dl od vs kvs) hp hg (fun _ e => by cases e) (fun _ _ e => by cases e) w (.dl rv)
      refine ⟨B, ρ, _, _, _, rs.fv w f, w2, q od vs, fun x g' v H' ⟨⟨d, ed⟩, e, qn⟩ r' w' f' _ => ?_, fun x g' cls d H' z => z.elim⟩
      obtain ⟨hu, f2, w3⟩ := unlock_ok w' e
      subst ed
      exact ⟨hu, c (.v d) _ v _ qn (r'.fv w' f2) w3 (f.trans (f'.trans f2)) .no⟩
    · exact q.elim
/-- the keys of a locked dict -/
def wKeysL (ta : TD) : TID := fun ρ g Q W => ta ρ g (fun r g1 => match r.fz with
  | .ref a => ∃ od vs kvs, g1 a = some (.dl od vs kvs) ∧ Q (kvs.map fun p => .tup (p.1.map keyD)) (fun g' => g' a = some (.dl od vs kvs)) g1
  | _ => False) W
theorem itKT {K : PySem.W.Frag} {B : List Addr} {H0 : Hp} {g0 : GH} {a : Addr} {od : Obj} {vs : List (List Key × V)} {kvs : List (List Key × D)} :
    ItOk K B H0 g0 (Itkt a od vs) (kvs.map fun p => .tup (p.1.map keyD)) (fun g => g a = some (.dl od vs kvs)) := fun B' i H g _ n rg f ga => by
  obtain ⟨h', rv⟩ := trk_dl rg ga
  have hk := rv.keys
  have hl : vs.length = kvs.length := by
    have := congrArg List.length hk
    rwa [List.length_map, List.length_map] at this
  refine ⟨fun d hd => ?_, fun hi => ⟨h', by rw [List.length_map] at hi; omega⟩⟩
  rw [List.getElem?_map] at hd
  obtain ⟨p, hp, rfl⟩ := Option.map_eq_some_iff.mp hd
  have hi := (List.getElem?_eq_some_iff.mp hp).1
  refine ⟨⟨h', by omega⟩, fun x H' ⟨e, k, v, q, hv, ex, hq⟩ => ?_⟩
  subst e ex
  have e1 : (vs.map (·.1))[i]? = some k := by rw [List.getElem?_map, hv]; rfl
  rw [hk, List.getElem?_map, hp] at e1
  cases e1
  exact ⟨key_rep rg hq, rg, Fr.refl _ _⟩
theorem q_keysL (h : PE X e (LE X.K E te)) : PI X tg e (LI X.K E (wKeysL te)) :=
  PI.of (pi_keys h) fun σ H R ⟨B, ρ, g, Q0, W0, rs, rg, t, c, xc⟩ =>
    ⟨B, ρ, g, _, W0, rs, rg, t, fun r g1 x H1 hq rd rg1 f1 _ => by
      dsimp only at hq
      split at hq
      · rename_i a e
        rw [e] at rd
        cases rd
        obtain ⟨od, vs, kvs, hg, hq⟩ := hq
        obtain ⟨h', rv⟩ := trk_dl rg1 hg
        exact ⟨a, od, rfl, .inr ⟨vs, h', c _ _ g1 _ H1 hq itKT rg1 f1⟩⟩
      · exact hq.elim, xc⟩
end
end G3
/-! G3dv: builtins on dicts by tuples; an expression while a dict is locked -/
namespace G3
open PySem PySem.Spec PyProof.Rows L2
/-- the expression while some dict is locked -/
def wLockX (t : TD) : TD := fun ρ g Q W => ∃ a kvs, g a = some (.dt kvs) ∧ ∀ od r, t ρ (gup g a (.dl od r kvs)) (fun x g' => g' a = some (.dl od r kvs) ∧ Q x (gup g' a (.dt kvs))) fun _ _ => False
section
variable {X : Cx} {e : Expr} {te : TD} {E : L2.St → XK}
theorem fresh_unlock {K : PySem.W.Frag} {B : List Addr} {H0 H : Hp} {g : GH} {a : Addr} {od : Obj} {r : List (List Key × V)} {kvs : List (List Key × D)} {v : V} {x : R} (u0 : HO) (hg : g a = some (.dl od r kvs)) (h0 : H0 a = some u0) (hf : Fresh K B (upd H0 a (.frz od (.dT r))) H g v x) :
    Fresh K B H0 (upd H a (.dT r)) (gup g a (.dt kvs)) v x := by
  intro ds ex
  obtain ⟨p, vs, G, ev, hp, hl, hk, rg, rv⟩ := hf ds ex
  have pa : p ≠ a := fun z => by rw [z, upd_same] at hp; cases hp
  have hp0 : H0 p = none := by rw [upd_ne pa] at hp; exact hp
  obtain ⟨z, hz, rz⟩ := rg a _ hg
  cases rz with
  | dl rk =>
    obtain ⟨f, rg'⟩ := Fr.write (u' := .dT r) (o' := .dt kvs) hz hg (fun _ e => by cases e) (fun _ _ e => by cases e) rg (.dT rk)
    have ha := (of_hide (hk a _ hz).2)
    refine ⟨p, vs, upd G a (.dT r), ev, hp0, by rw [upd_ne pa]; exact hl, fun b w hb => ?_, rg', rv.fr rg f⟩
    by_cases e : b = a
    · subst e
      rw [upd_same] at hb; cases hb
      exact ⟨(hk b _ hz).1, by rw [hide_out ha.2, upd_same]⟩
    · rw [upd_ne e] at hb
      obtain ⟨q1, q2⟩ := hk b w hb
      have q3 := of_hide q2
      exact ⟨q1, by rw [hide_out q3.2, upd_ne e]; exact q3.1⟩
theorem q_lockX (h : PE X e (LE X.K E te)) : PE X e (LE X.K E (wLockX te)) :=
  PE.of (pe_lock h) fun σ H Q ⟨B, ρ, g, Q0, W0, rs, w, ⟨a, kvs, hg, q⟩, c, xc⟩ => by
    obtain ⟨vs, hp, rv⟩ := trk_dt w hg
    refine ⟨a, .dT vs, hp, trivial, fun od => ?_⟩
    obtain ⟨f, w2⟩ := Fr.writeV (u' := .frz od (.dT vs)) (o' := .dl od vs kvs) hp hg (fun _ e => by cases e) (fun _ _ e => by cases e) w (.dl rv)
    refine ⟨B, ρ, _, _, _, rs.fv w f, w2, q od vs, fun x g' v H' ⟨e, qn⟩ r' w' f' fr => ?_, fun x g' cls d H' z => z.elim⟩
    obtain ⟨hu, f2, w3⟩ := unlock_ok w' e
    exact ⟨hu, c x _ v _ qn (r'.fv w' f2) w3 (f.trans (f'.trans f2)) (fresh_unlock (.dT vs) e hp fr)⟩
end
theorem ints_inv {K : PySem.W.Frag} {H : Hp} {g : GH} : ∀ {ns : List Int} {vs : List V}, Reps K H g vs (ns.map .int) → vs = (tK ns).map kV
  | [], _, .nil => rfl
  | n :: ns, _, .cons r t => by
    have e1 := int_of r
    rw [e1, ints_inv t]; rfl
theorem pairs_refT {K : PySem.W.Frag} {B : List Addr} {H : Hp} {g : GH} : ∀ {rows : List (List Int × D)} {vs : List V}, Reps K (hide H B) g vs (rows.map fun r => .tup [.tup (r.1.map .int), r.2]) →
    ∃ ps rs, vs = ps.map V.ref ∧ Paired (PrT K H) ps rs ∧ DRep K (hide H B) g rs (rows.map fun r => (tK r.1, r.2))
  | [], _, .nil => ⟨[], [], rfl, .nil, .nil⟩
  | row :: rows, _, .cons r t => by
    obtain ⟨ps, rs, e, hp, hd⟩ := pairs_refT t
    cases r with
    | tup h1 q =>
      match q with
      | .cons qk (.cons qv .nil) =>
        cases qk with
        | @tup b us _ h2 q2 =>
          rw [ints_inv q2] at h2
          rename_i p _ v2
          refine ⟨p :: ps, (tK row.1, v2) :: rs, by rw [e]; rfl, .cons ⟨b, .inl (.inl (of_hide h1).1), (of_hide h2).1⟩ hp, .cons qv hd⟩
inductive Tfn | copyT | pairsT | reprT | listT
def Tfn.nm : Tfn → Str
  | .copyT | .pairsT => "dict" | .reprT => "repr" | .listT => "list"
def Tfn.u : Tfn → Value
  | .copyT | .pairsT => .type "dict" | .reprT => .builtin "repr" | .listT => .type "list"
theorem Tfn.boot : ∀ b : Tfn, bootBuiltins b.nm = some b.u
  | .copyT | .pairsT | .reprT | .listT => by decide +kernel
theorem Tfn.nm_ok : ∀ b : Tfn, b.nm ≠ "__name__" ∧ (b.nm == ("__debug__" : Str)) = false
  | .copyT | .pairsT | .reprT | .listT => by decide +kernel
theorem Tfn.kind : ∀ b : Tfn, (∃ id, b.u = .builtin id) ∨ ∃ T, b.u = .type T
  | .reprT => .inl ⟨_, rfl⟩
  | .copyT | .pairsT | .listT => .inr ⟨_, rfl⟩
def Tfn.f : Tfn → List D → GH → QK → Prop
  | .copyT => fun ds g Q => match ds with | [.ref a] => ∃ kvs, dtAt g a kvs ∧ HApart (kvs.map (·.1)) ∧ ∀ p, g p = none → Q (.v (.ref p)) (gup g p (.dt kvs)) | _ => False
  | .pairsT => fun ds g Q => match ds with | [d] => ∃ rows : List (List Int × D), lstOf g (.v d) (rows.map fun r => .tup [.tup (r.1.map .int), r.2]) ∧ ∀ p, g p = none → Q (.v (.ref p)) (gup g p (.dt (mergeD [] (rows.map fun r => (tK r.1, r.2))))) | _ => False
  | .listT => fun ds g Q => match ds with | [.ref a] => ∃ kvs, dtAt g a kvs ∧ Q (.tl (kvs.map fun p => .tup (p.1.map keyD))) g | _ => False
  | .reprT => fun ds g Q => match ds with | [.ref a] => ∃ kvs, dtAt g a kvs ∧ kNd kvs ∧ (∀ p ∈ kvs, okD 64 p.2 = true ∧ nlP (pd p.2) = true) ∧ (pdT (fOf kvs) (kvs.map (·.1))).depth ≤ 60 ∧ (pdT (fOf kvs) (kvs.map (·.1))).showable = true ∧ (pdT (fOf kvs) (kvs.map (·.1))).shown.length ≤ sizeLine ∧ Q (.v (.str (pdT (fOf kvs) (kvs.map (·.1))).shown)) g | _ => False
theorem keys_of {K : PySem.W.Frag} {B : List Addr} {H : Hp} {g : GH} (w : Vw K B H g) {vs : List (List Key × V)} {bs : List Addr} (h : IsKeys H vs bs) : Reps K (hide H B) g (bs.map V.ref) (vs.map fun p => .tup (p.1.map keyD)) := by
  unfold IsKeys at h
  induction h with
  | nil => exact .nil
  | cons q t ih => exact .cons (key_rep w q) ih
theorem Tfn.ok (X : Cx) (b : Tfn) (hc : X.calm = true) (gu : X.A.guards = some []) (hu : X.A.units + 70 < cLine) : ∃ r, CallR X b.u r ∧ RNOk X.K b.f r := by
  cases b with
  | copyT => exact ⟨_, call_dictT (by omega), fun xs ds B H g Q0 Q r w q c => by
      match ds, r, q with
      | [.ref a], .cons r .nil, ⟨kvs, hg, ha, q⟩ =>
        cases r
        obtain ⟨vs, hp, rv⟩ := hg.rd w
        exact ⟨a, vs, rfl, hp, by rw [rv.keys]; exact ha, fun p hp => c.newO w hp (.dT rv) (q p)⟩⟩
  | pairsT => exact ⟨_, call_pairsT hc (by omega), fun xs ds B H g Q0 Q r w q c => by
      match ds, r, q with
      | [d], .cons r .nil, ⟨rows, hl, q⟩ =>
        obtain ⟨a, vs, rfl, h, rv⟩ := lstOf.rep w.rg (r := .v d) r hl
        obtain ⟨ps, rs, rfl, pr, dr⟩ := pairs_refT rv
        exact ⟨a, ps, rs, rfl, .inl (.inl (of_hide h).1), pr, fun p hp => c.newO w hp (.dT (DRep.merge dr .nil)) (q p)⟩⟩
  | listT => exact ⟨_, call_list_dT hc, fun xs ds B H g Q0 Q r w q c => by
      match ds, r, q with
      | [.ref a], .cons r .nil, ⟨kvs, hg, q⟩ =>
        cases r
        obtain ⟨vs, hp, rv⟩ := hg.rd w
        refine ⟨a, vs, rfl, hp, fun p bs hn hk => c.newL q ?_ w p hn⟩
        have e : (kvs.map fun p => D.tup (p.1.map keyD)) = vs.map fun p => D.tup (p.1.map keyD) := by
          have := congrArg (List.map fun k : List Key => D.tup (k.map keyD)) rv.keys
          rw [List.map_map, List.map_map] at this
          exact this.symm
        rw [e]
        exact keys_of w hk⟩
  | reprT => exact ⟨_, call_reprT gu hu, fun xs ds B H g Q0 Q r w q c => by
      match ds, r, q with
      | [.ref a], .cons r .nil, ⟨kvs, hg, hn, ho, h60, hs, hz, q⟩ =>
        cases r
        obtain ⟨vs, hp, rv⟩ := hg.rd w
        have hd := dps w rv hn fun p m => (ho p m).1
        rw [← rv.keys] at h60 hs hz q
        refine ⟨a, vs, fOf kvs, rfl, hp, fun p m => ⟨(hd p m).1, ?_⟩, h60, hs, hz, c.here q (.str _) w⟩
        obtain ⟨d, m2, _⟩ := rv.mem p m
        have e : fOf kvs p.1 = pd d := by unfold fOf; rw [lookD_mem hn m2]; rfl
        rw [e]
        exact (ho _ m2).2⟩
/-! ### {(): x} -/
def tDisE (to : TE) : TE := fun σ H Q => ∀ p, H p = none → ∀ q, upd H p (.dT []) q = none → to σ (upd (upd H p (.dT [])) q (.tup [])) fun y H2 => H2 p = some (.dT []) ∧ H2 q = some (.tup []) ∧ Q (.ref p) (upd H2 p (.dT [([], y)]))
theorem pe_disE {X : Cx} {o : Expr} {to : TE} {x1 : Nat} {pos p2 : Pos} (hu : X.A.units < cLine) (ho : PE X o to) : PE X (.Dict [some (.Tuple [] x1 p2)] [o] pos) (tDisE to) := by
  refine ⟨fun pins s σ H Q I h => ?_⟩
  rw [arm_eval_Dict, zip_pairTrees [some (.Tuple [] x1 p2)] [o] X.env pos rfl rfl, dictDisplay_pairs _ (by simp [pairTrees]) (by simp [pairTrees])]
  have hn := I.hok.fresh (Nat.le_refl s.heap.objs.size)
  have I1 := I.laid (a := s.heap.objs.size) (o := .dT []) (h' := s.heap.push { cls := .type "dict", data := .dict #[] }) (t' := s.toks) (fun _ _ q => Heap.get?_push_of_some _ q) (Nat.le_refl _) (dt_empty s.heap I.big)
  have hk : PE X (.Tuple [] x1 p2) (tTup tNil) := pe_tup pa_nil
  refine wpAny_bind (wpAny_standAt (wpAny_bind (PySem.wpAny_subDictH (knd := tupleKind (mixKind X.prog X.w)) (Q := fun d s' => wpAny (model X.prog X.w) X.A (pure (Value.ref d)) (EP X pins σ Q) X.xe s') hu (by simp [pairTrees]) ?_)))
  refine pairTrees_cons_walk (thn (hk.run pins _ σ _ (fun x H1 => ∃ q, x = .ref q ∧ to σ H1 fun y H2 => H2 s.heap.objs.size = some (.dT []) ∧ H2 q = some (.tup []) ∧ Q (.ref s.heap.objs.size) (upd H2 s.heap.objs.size (.dT [([], y)]))) I1 ⟨Nat.zero_le _, fun q hq => ⟨q, rfl, h _ hn q hq⟩⟩) fun u s1 ⟨x, H1, I1, rx, q, ex, hq⟩ => ?_)
  subst ex
  cases rx
  refine thn (ho.run pins s1 σ H1 _ I1 hq) fun v s2 ⟨y, H2, I2, ry, h1, h2, qq⟩ => pairTrees_nil_walk ?_
  obtain ⟨z, lo, xs, rel, dd⟩ := dt_of I2.hok h1
  cases rel
  refine ⟨[([], q, v)], ⟨rfl, rfl, key_of I2.hok h2, trivial⟩, dd, fun h' tk d' sb => wpAny_pure ?_⟩
  obtain ⟨ob, es, n, g1, g2, g3, g4, _, g6⟩ := d'
  have ne : q ≠ s.heap.objs.size := fun e => by rw [e, h1] at h2; cases h2
  have I3 : L2.Inv X pins σ (upd H2 s.heap.objs.size (.dT [([], y)])) { s2 with heap := h', toks := tk } :=
    d_write I2 (by rw [h1]; exact True.intro) sb ⟨ob, g1⟩ ⟨by rw [sizeLine_eq]; show 1 ≤ 16777216; decide, lo, [([], q, v)], .cons ⟨rfl, by rw [upd_ne ne]; exact h2, ry⟩ .nil, ob, es, n, g1, g2, g3, g4, g6⟩
  exact ⟨.ref s.heap.objs.size, _, I3, rfl, qq⟩
/-- {(): x}, x a slot -/
def wDisE (n : Nat) : TD := fun ρ g Q _ => match ρ[n]? with
  | some (some d) => ∀ p, g p = none → Q (.v (.ref p)) (gup g p (.dt [([], d)]))
  | _ => False
theorem q_disE {X : Cx} {o : Expr} {E : L2.St → XK} {x1 n : Nat} {pos p2 : Pos} (hu : X.A.units < cLine) (ho : PE X o (tVar n)) : PE X (.Dict [some (.Tuple [] x1 p2)] [o] pos) (LE X.K E (wDisE n)) :=
  PE.of (pe_disE hu ho) fun σ H Q ⟨B, ρ, g, Q0, W0, rs, w, t, c, xc⟩ => by
    unfold wDisE at t
    split at t
    · rename_i d hd
      obtain ⟨v, hv, r⟩ := rs.at_ n _ hd
      intro p hp q hq
      have qp : q ≠ p := fun e => by rw [e, upd_same] at hq; cases hq
      have hq0 : H q = none := by rw [upd_ne qp] at hq; exact hq
      refine ⟨v, hv, ?_, upd_same, ?_⟩
      · rw [upd_ne (fun e => qp e.symm), upd_same]
      · obtain ⟨f, w2, -⟩ := Fr.laidV (u := .tup []) hq0 w
        have hp2 : (upd H q (HO.tup [])) p = none := by rw [upd_ne (fun e => qp e.symm)]; exact hp
        have e : upd (upd (upd H p (.dT [])) q (.tup [])) p (.dT [([], v)]) = upd (upd H q (.tup [])) p (.dT [([], v)]) := by
          funext b
          by_cases b1 : b = p
          · rw [b1, upd_same, upd_same]
          · rw [upd_ne b1, upd_ne b1]
            by_cases b2 : b = q
            · rw [b2, upd_same, upd_same]
            · rw [upd_ne b2, upd_ne b2, upd_ne b1]
        rw [e]
        exact (c.after f).newO w2 hp2 (.dT (.cons (r.fv w f) .nil)) (t p)
    · exact t.elim
end G3
/-! G3dm: methods of dicts by tuples -/
namespace G3
open PySem PySem.Spec PyProof.Rows L2
inductive Dmt | clear | pop1 | pop2 | get2
def Dmt.nm : Dmt → Str
  | .clear => "clear" | .pop1 | .pop2 => "pop" | .get2 => "get"
def Dmt.id : Dmt → String
  | .clear => "dict.clear" | .pop1 | .pop2 => "dict.pop" | .get2 => "dict.get"
def Dmt.f : Dmt → Addr → List (List Key × D) → List D → GH → QK → Prop
  | .clear => fun p _ ds g Q => ds = [] ∧ Q (.v .non) (gup g p (.dt []))
  | .pop1 => fun p kvs ds g Q => ∃ (k : List Int) (d : D), ds = [.tup (k.map .int)] ∧ lookD kvs (tK k) = some d ∧ Q (.v d) (gup g p (.dt (dropD kvs (tK k))))
  | .pop2 => fun p kvs ds g Q => ∃ (k : List Int) (x : D), ds = [.tup (k.map .int), x] ∧ (∀ d, lookD kvs (tK k) = some d → Q (.v d) (gup g p (.dt (dropD kvs (tK k))))) ∧ (lookD kvs (tK k) = none → Q (.v x) g)
  | .get2 => fun p kvs ds g Q => ∃ (k : List Int) (x : D), ds = [.tup (k.map .int), x] ∧ Q (.v ((lookD kvs (tK k)).getD x)) g
def fDmt (f : Addr → List (List Key × D) → List D → GH → QK → Prop) (ta : TD) (tr : TAD) : TD := fun ρ g Q W => ta ρ g (fun r g1 => ∃ p, r.fz = .ref p ∧ (∃ kvs, g1 p = some (.dt kvs)) ∧ tr ρ g1 (fun ds g2 => ∃ kvs, g2 p = some (.dt kvs) ∧ f p kvs ds g2 Q) W) W
def rClearT : V → List V → Hp → VK → Prop := fun x xs H Q => ∃ (a : Addr) (kvs : List (List Key × V)), x = .ref a ∧ xs = [] ∧ H a = some (.dT kvs) ∧ Q .non (upd H a (.dT []))
theorem mt_clearT {X : Cx} : MtR X "dict.clear" rClearT := by
  intro pins s σ H x xs v us Q I rx rxs h
  obtain ⟨a, kvs, rfl, rfl, ha, q⟩ := h
  cases rx
  cases rxs
  obtain ⟨z, hd, xs', rel, o, es, ep, h1, h2, h3, h4, h5⟩ := (show ObjOk X.prog X.w H s.heap a (.dT kvs) from I.hok a _ ha)
  have l1 : es.size = xs'.length := size_of_entries h4
  have l2 : kvs.length = xs'.length := Paired.length rel
  have raw : s.heap.DictRaw a es ep := ⟨o, h1, h2, h3⟩
  refine call_meetsIn PySem.F.slot_dict_clear raw.typeIs PySem.F.entry_dict_clear (PySem.F.args_dict_clear_1 _) (meets_dict_clear_raw a) ⟨es, ep, raw, by omega, fun h' hr hs => ?_⟩
  obtain ⟨o', g1, g2, g3⟩ := hr
  have I2 : L2.Inv X pins σ (upd H a (.dT [])) { s with heap := h' } :=
    d_write (t' := s.toks) I (by rw [ha]; exact True.intro) hs ⟨o', g1⟩ ⟨Nat.zero_le _, hd, [], .nil, o', #[], ep + 1, g1, g2, g3, rfl, List.nodup_nil⟩
  exact ⟨.non, _, I2, rfl, q⟩
/-- what a method's rule must give -/
def DmOk (K : PySem.W.Frag) (f : Addr → List (List Key × D) → List D → GH → QK → Prop) (r : V → List V → Hp → VK → Prop) : Prop :=
  ∀ (p : Addr) (kvs : List (List Key × D)) (vs : List (List Key × V)) (ds : List D) (ys : List V) (B : List Addr) (H : Hp) (g : GH) (Q0 : QK) (Q : VK), Vw K B H g → g p = some (.dt kvs) → H p = some (.dT vs) → DRep K (hide H B) g vs kvs → Reps K (hide H B) g ys ds → f p kvs ds g Q0 → Cont K B H g Q0 Q → r (.ref p) ys H Q
theorem dmt_imp {K : PySem.W.Frag} {f : Addr → List (List Key × D) → List D → GH → QK → Prop} {r : V → List V → Hp → VK → Prop} (h0 : DmOk K f r) {ta : TD} {tr : TAD} {E : L2.St → XK} {σ : L2.St} {H : Hp} {Q : VK} (h : LE K E (fDmt f ta tr) σ H Q) : tBM K "dict" r (LE K E ta) (LA K E tr) σ H Q := by
  obtain ⟨B, ρ, g, Q0, W0, rs, rg, t, c, xc⟩ := h
  refine ⟨B, ρ, g, _, W0, rs, rg, t, fun d g1 x H1 ⟨p, ep, ⟨kvs, hg⟩, hb⟩ rd w1 f1 _ => ?_, xc⟩
  rw [ep] at rd
  cases rd
  obtain ⟨vs, hp, rv⟩ := trk_dt w1 hg
  refine ⟨.inr (.inr (.inl ⟨rfl, .inr ⟨vs, hp⟩⟩)), B, ρ, g1, _, W0, rs.fv rg f1, w1, hb, fun ds g2 ys H2 ⟨kvs2, hg2, q⟩ re w2 f2 => ?_, xc.after f1⟩
  obtain ⟨vs2, hp2, rv2⟩ := trk_dt w2 hg2
  exact h0 p kvs2 vs2 ds ys B H2 g2 Q0 Q w2 hg2 hp2 rv2 re q (c.after (f1.trans f2))
/-- the dict changes, a value is told -/
theorem Cont.dput {K : PySem.W.Frag} {B : List Addr} {H : Hp} {g : GH} {Q0 : QK} {Q : VK} {p : Addr} {vs us : List (List Key × V)} {kvs lvs : List (List Key × D)} {v : V} {d : D} (c : Cont K B H g Q0 Q) (w : Vw K B H g) (hg : g p = some (.dt kvs)) (hp : H p = some (.dT vs)) (r : DRep K (hide H B) g us lvs) (rd : Rep K (hide H B) g v d)
    (q : Q0 (.v d) (gup g p (.dt lvs))) : Q v (upd H p (.dT us)) := by
  obtain ⟨f3, w3⟩ := Fr.writeV (u' := .dT us) (o' := .dt lvs) hp hg (fun _ e => by cases e) (fun _ _ e => by cases e) w (.dT r)
  exact c (.v d) _ _ _ q (rd.fv w f3) w3 f3 .no
theorem Dmt.ok (X : Cx) (hu : X.A.units + 65 < cLine) (m : Dmt) : ∃ r, MtR X m.id r ∧ DmOk X.K m.f r := by
  cases m with
  | clear => exact ⟨_, mt_clearT, fun p kvs vs ds ys B H g Q0 Q w hg hp rv re ⟨e, q⟩ c => by
      subst e
      cases re
      exact ⟨p, vs, rfl, rfl, hp, c.dput w hg hp .nil .non q⟩⟩
  | pop1 => exact ⟨_, mt_pop1T (by omega), fun p kvs vs ds ys B H g Q0 Q w hg hp rv re ⟨k, d, e, hl, q⟩ c => by
      subst e
      match ys, re with
      | [y], .cons ry .nil =>
        obtain ⟨b, rfl, hb⟩ := tKey_rep ry
        rcases rv.look (tK k) with ⟨e1, e2⟩ | ⟨v, d', e1, e2, r'⟩
        · rw [hl] at e2; cases e2
        · rw [hl] at e2; cases e2
          exact ⟨p, vs, tK k, b, v, rfl, rfl, hp, (of_hide hb).1, e1, c.dput w hg hp (rv.drop _) r' q⟩⟩
  | pop2 => exact ⟨_, DX.mt_popT (by omega), fun p kvs vs ds ys B H g Q0 Q w hg hp rv re ⟨k, x, e, q1, q2⟩ c => by
      subst e
      match ys, re with
      | [y, z], .cons ry (.cons rz .nil) =>
        obtain ⟨b, rfl, hb⟩ := tKey_rep ry
        refine ⟨p, vs, tK k, b, z, rfl, rfl, hp, (of_hide hb).1, fun v hv => ?_, fun hv => ?_⟩
        · rcases rv.look (tK k) with ⟨e1, e2⟩ | ⟨v', d', e1, e2, r'⟩
          · rw [hv] at e1; cases e1
          · rw [hv] at e1; cases e1
            exact c.dput w hg hp (rv.drop _) r' (q1 d' e2)
        · rcases rv.look (tK k) with ⟨e1, e2⟩ | ⟨v', d', e1, e2, r'⟩
          · exact c.here (q2 e2) rz w
          · rw [hv] at e1; cases e1⟩
  | get2 => exact ⟨_, mt_getT (by omega), fun p kvs vs ds ys B H g Q0 Q w hg hp rv re ⟨k, x, e, q⟩ c => by
      subst e
      match ys, re with
      | [y, z], .cons ry (.cons rz .nil) =>
        obtain ⟨b, rfl, hb⟩ := tKey_rep ry
        refine ⟨p, vs, tK k, b, z, rfl, rfl, .inl hp, (of_hide hb).1, ?_⟩
        rcases rv.look (tK k) with ⟨e1, e2⟩ | ⟨v', d', e1, e2, r'⟩
        · rw [e1]; rw [e2] at q; exact c.here q rz w
        · rw [e1]; rw [e2] at q; exact c.here q r' w⟩
theorem Dmt.slot : ∀ m : Dmt, Slot "dict" m.nm m.id
  | .clear => PySem.F.slot_dict_clear | .pop1 | .pop2 => PySem.F.slot_dict_pop | .get2 => PySem.F.slot_dict_get
theorem Dmt.ty : ∀ m : Dmt, typeOf (.builtin m.id) = pure (.type "method_descriptor")
  | .clear => PySem.F.type_dict_clear | .pop1 | .pop2 => PySem.F.type_dict_pop | .get2 => PySem.F.type_dict_get
end G3
/-! G3y: a caught exception is tracked by what is true of its object; raise, try, calls by value -/
namespace G3
open PySem PySem.Spec PyProof.Rows L2
theorem IsX.stay {a : Addr} {cls : Value} {d : Option Addr} : ∀ h1 h2 : Heap, IsX a cls d h1 → (∀ o, h1.get? a = some o → h2.get? a = some o) → IsX a cls d h2 := fun h1 h2 ⟨o, vs, e, r⟩ k => ⟨o, vs, k o e, r⟩
/-- what 'except x as n' wishes: the suite starts with the exception tracked -/
def wKept (K : PySem.W.Frag) (c : Value) (i : Nat) (ts : Addr → Value → Option Addr → TS) (Wout : WX) (D : Ends) : WX := fun cls d σ H =>
  ∃ b, PySem.W.exmOne K cls c = some b ∧ (b = true → ∀ a, H a = none → ts a cls d { nx := fun σ' H' => D.nx (σ'.set i none) H', rt := D.rt, bk := fun σ' H' => D.bk (σ'.set i none) H', ct := fun σ' H' => D.ct (σ'.set i none) H' }
    (σ.set i (some (.ref a))) (upd H a (.ext (IsX a cls d)))) ∧ (b = false → Wout cls d σ H)
section
variable {X : Cx} {x n : Str} {c : Value} {i : Nat} {body suite : List Stmt} {one : Stmt} {np pos pos' : Pos} {tb : WX → TS} {ts : Addr → Value → Option Addr → TS} {Wout : WX}
theorem ps_try_kept (hs : X.stack = X.env :: X.outer) (hf : X.env.frame = some X.env.locals) (hN : X.N.Nodup) (hi : X.N[i]? = some n) (hln : X.env.kindOf n = some .local) (hc : Names X x c) (tk : Takes X Wout)
    (hb : ∀ (W : WX) (pn : List (Addr × Obj)) (xe : Value → Shared → Prop), Takes (X.tr pn xe) W → PassesOwn (model X.prog X.w) X.A X.env xe → PSs (X.tr pn xe) body (tb W))
    (hsu : ∀ (a : Addr) (cls : Value) (d : Option Addr) (pn : List (Addr × Obj)), PSs (X.suite a pn) (one :: suite) (ts a cls d)) :
    PS X (.Try body [.ExceptHandler (some (.Name x np)) (some n) (one :: suite) pos'] [] [] pos) (fun D σ H => tb (wKept X.K c i ts Wout D) D σ H) := by
  constructor
  intro pins s σ H D I h
  have ok := I.ok
  have frames : X.A.frames = some (X.env :: X.outer) := by rw [ok.frames, hs]
  refine wpAny_Try_except ?_
  let catching : Value → Shared → Prop := fun e s₁ => wpAny (model X.prog X.w) X.A (noteFrame e X.env) (fun _ s₂ => wpAny (model X.prog X.w) X.A (setFlight e none) (fun _ s₃ =>
    wpAny (model X.prog X.w) X.A (handleBy e X.env [.ExceptHandler (some (.Name x np)) (some n) (one :: suite) pos']) (SP X pins D) X.xe s₃) X.xe s₂) X.xe s₁
  have takes : Takes (X.tr (X.pn ++ pins) catching) (wKept X.K c i ts Wout D) := by
    rintro u s' ⟨a, B, sI, pins', σ', H', cls, d, rfl, J0, ground, up, sky, na, os, bare, b, hb1, hyes, hno⟩
    have J : Inv X pins σ' H' sI := J0.ofTry ok
    have sky0 : Sky B (X.env :: X.outer) a (Zc cls d) X.env.locals s'.heap := by rw [← hs]; exact sky
    refine Sky.land Zc.steady frames hf sky0 fun hA fA upA => ?_
    have JA : Inv X pins σ' H' { s' with heap := hA } := J.landed ground fA.1 (up.trans upA) os bare
    obtain ⟨oA, vA, atA, zA, dA⟩ := fA.there
    have off : ∀ {h : Heap} {o : Obj} {vs : Array Value}, h.FunFrames B (X.env :: X.outer) → h.get? a = some o → o.data = .fields vs → a ∉ frs (X.env :: X.outer) := fun {h o vs} ff e dd m => by
      obtain ⟨_, o', e', z⟩ := ff.mem m
      rw [e] at e'; cases e'
      exact z _ dd
    have nfr := off fA.2.2.1 atA dA
    have nL : a ≠ X.env.locals := fun z => nfr (List.mem_filterMap.mpr ⟨X.env, List.mem_cons_self, by rw [hf, z]⟩)
    have nI : ∀ o, sI.heap.get? a ≠ some o := fun o e => by
      have q := ground a o e (by rw [hs]; exact nfr)
      rw [fA.2.1] at q; cases q
    -- the exception's object, tracked
    have tracked : ∀ {h : Heap}, Inv X pins σ' H' { s' with heap := h } → IsX a cls d h → Inv X pins σ' (upd H' a (.ext (IsX a cls d))) { s' with heap := h } := fun {h} I0 is => by
      refine inv_track I0 na (fun o e => ?_) nL (fun x c e z => ?_) (fun p hp z => ?_) ⟨is, ?_, IsX.stay⟩
      · by_cases m : a ∈ X.ex
        · exact m
        · obtain ⟨o', e'⟩ := J.base.there a o e m
          exact absurd e' (nI o')
      · obtain ⟨v, q⟩ := J.cell x c e
        obtain ⟨o, q⟩ : ∃ o, sI.heap.get? c = some o := by
          obtain ⟨_, e', _⟩ := q
          exact ⟨_, e'⟩
        exact nI o (z ▸ q)
      · exact nI _ (z ▸ (J.pin p hp).1)
      · obtain ⟨o, _, e, _⟩ := is; exact ⟨o, e⟩
    have kindA : PySem.W.Looks (model X.prog X.w) hA (typeOf (.ref a)) cls := fun A Q E s k q => wpAny_typeOf_ref (k _ _ atA) (by rw [zA.1]; exact q)
    have isA : IsX a cls d hA := ⟨oA, vA, atA, zA.1, zA.2, dA⟩
    have SA : Inv (X.suite a (X.pn ++ pins)) [] σ' (upd H' a (.ext (IsX a cls d))) { s' with heap := hA } :=
      let I0 := tracked JA isA
      ⟨I0.ok.suite _ _, I0.os, I0.bare, I0.base, I0.loc, I0.cell, I0.free, I0.freeC, fun p hp => I0.pin p (by rw [List.append_nil] at hp; exact hp), I0.hok, I0.len⟩
    refine wpAny_handleBy_cons (codeAny_handlers_test ?_) (by intro q; cases q)
    have looked : ∀ {Q : Value → Shared → Prop} {E : Value → Shared → Prop}, Q c { s' with heap := hA } → wpAny (model X.prog X.w) (X.A.mark (some (.ref a))) (eval (.Name x np) X.env) Q E { s' with heap := hA } := fun {Q E} q => by
      obtain ⟨g1, g2, m | ⟨m, v, g3⟩⟩ := hc
      · exact ld_glob (X := X.suite a (X.pn ++ pins)) SA g1 m q g2
      · exact ld_blt (X := X.suite a (X.pn ++ pins)) SA g1 m v q g3 g2
    refine looked ((PySem.W.exm_one (M := model X.prog X.w) JA.kIn kindA hb1).here ?_)
    cases b with
    | false =>
      show wpAny _ X.A (handleBy (.ref a) X.env []) _ _ _
      refine wpAny_handleBy_nil ?_
      obtain ⟨_, _, _, o1, v1, T, oT, tf, e1, z1, d1, f1, _⟩ := id fA
      have on : wpAny (model X.prog X.w) X.A (setFlight (.ref a) X.env.frame) (fun _ s4 => wpAny (model X.prog X.w) X.A (throw (.ref a) : Sem Flow) (SP X pins D) X.xe s4) X.xe { s' with heap := hA } := by
        rw [hf]
        exact HandSPX.setFlight_upZ fA fun hB held upB => wpAny_throw (tk _ _ ⟨a, B, sI, pins, σ', H', cls, d, rfl, J, ground, (up.trans upA).trans upB, .inr (.inr (by rw [hs]; exact held)), na, os, bare, hno rfl⟩)
      unfold PySem.passOn
      refine wpAny_bind (wpAny_field e1 d1 f1 ?_)
      rw [if_neg (by simp : ¬ ((Value.ref T == Value.none) = true))]
      first
        | exact wpAny_bind (wpAny_pure (wpAny_bind on))
        | exact wpAny_bind on
    | true =>
      refine codeAny_handlers_suite_as (HandSPX.lands_againZ fA fun hB fB upB => ?_)
      have JB : Inv X pins σ' H' { s' with heap := hB } := J.landed ground fB.1 ((up.trans upA).trans upB) os bare
      obtain ⟨oB, vB, atB, zB, dB⟩ := fB.there
      have IB := tracked JB ⟨oB, vB, atB, zB.1, zB.2, dB⟩
      have SB : Inv (X.suite a (X.pn ++ pins)) [] σ' (upd H' a (.ext (IsX a cls d))) { s' with heap := hB } :=
        ⟨IB.ok.suite _ _, IB.os, IB.bare, IB.base, IB.loc, IB.cell, IB.free, IB.freeC, fun p hp => IB.pin p (by rw [List.append_nil] at hp; exact hp), IB.hok, IB.len⟩
      refine store_ok (X := X.suite a (X.pn ++ pins)) (v := .ref a) SB hN hi (.inl hln) rfl (fun s5 S5 => ?_) (.inr hln)
      refine wpAny_mono ((hsu a cls d (X.pn ++ pins)).run [] s5 _ _ _ S5 (hyes rfl a na)) (fun f s6 done => ?_) (fun _ _ z => False.elim z)
      have after : ∀ {σ6 : L2.St} {H6 : Hp} {Q : Shared → Prop}, Inv (X.suite a (X.pn ++ pins)) [] σ6 H6 s6 → (∀ s7, Inv X pins (σ6.set i none) H6 s7 → Q s7) →
          wpAny (model X.prog X.w) X.A (do bindName X.env n .none; unbindBehindTheSuite X.env n pos') (fun _ s7 => Q s7) X.xe s6 := fun {σ6 H6 Q} S6 q =>
        gone_ok (X := X) ⟨ok, S6.os, S6.bare, S6.base, S6.loc, S6.cell, S6.free, S6.freeC, fun p hp => S6.pin p (by rw [List.append_nil]; exact hp), S6.hok, S6.len⟩ hN hi hln q
      match f, done with
      | .next, ⟨σ6, H6, S6, q6⟩ => exact after S6 fun s7 J7 => ⟨_, _, J7, q6⟩
      | .brk, ⟨σ6, H6, S6, q6⟩ => exact after S6 fun s7 J7 => ⟨_, _, J7, q6⟩
      | .cont, ⟨σ6, H6, S6, q6⟩ => exact after S6 fun s7 J7 => ⟨_, _, J7, q6⟩
      | .ret u, ⟨v6, σ6, H6, S6, r6, q6⟩ => exact after S6 fun s7 J7 => ⟨_, _, _, J7, r6, q6⟩
  refine wpAny_mono ((hb _ (X.pn ++ pins) catching takes PassesOwn.looking).run [] s σ H D (I.toTry _) h) (fun f s1 got => ?_) (fun _ _ he => he)
  match f, got with
  | .next, ⟨σ', H', J', q⟩ => exact wpAny_execs_nil ⟨σ', H', J'.ofTry ok, q⟩
  | .brk, ⟨σ', H', J', q⟩ => exact ⟨σ', H', J'.ofTry ok, q⟩
  | .cont, ⟨σ', H', J', q⟩ => exact ⟨σ', H', J'.ofTry ok, q⟩
  | .ret u, ⟨v, σ', H', J', r, q⟩ => exact ⟨v, σ', H', J'.ofTry ok, r, q⟩
end

/-! ### over data -/
/-- raise C('..') -/
def wRaise (C : Str) : TSD := fun D ρ g => D.ex ⟨C, none⟩ ρ g
def setO (ρ : DEnv) (i : Option Nat) (d : D) : DEnv := match i with
  | some i => ρ.set i (some d)
  | none => ρ
def gonO (ρ : DEnv) (i : Option Nat) : DEnv := match i with
  | some i => ρ.set i none
  | none => ρ
def tryEnds (i : Option Nat) (D : DEnds) : DEnds := ⟨fun ρ g => D.nx (gonO ρ i) g, D.rt, fun ρ g => D.ct (gonO ρ i) g, fun _ _ _ => False⟩
/-- try: body, except C [as the slot i's name]: suite -/
def wTry (xs : List Str) (C : Str) (i : Option Nat) (tb ts : TSD) : TSD := fun D ρ g =>
  tb { D with ex := fun x ρ' g' => x.C ∈ xs ∧ (exSub x.C C = true → ts (tryEnds i D) (setO ρ' i (.exc x.C x.n)) g') ∧ (exSub x.C C = false → D.ex x ρ' g') } ρ g
theorem ExOk.inv {K : PySem.W.Frag} {H : Hp} {g : GH} {x : Exn} {cls : Value} {d : Option Addr} (h : ExOk K H g x cls d) : ∃ c, gaK K x.C = some c ∧ cls = .ref c := by
  cases h with
  | plain h => exact ⟨_, h, rfl⟩
  | dict h _ _ => exact ⟨_, h, rfl⟩
section
variable {X : Cx} {W : L2.WX} {xs : List Str} {C : Str} {p p2 cpos pos pos' np : Pos} {m : Str} {j : Nat} {body suite : List Stmt} {one : Stmt} {tb ts : TSD} {i : Nat} {n : Str}
theorem s_raise {c : Addr} (hc : X.calm = true) (tk : Takes X W) (hg : Gl X C) (hm : X.mg C = some (.ref c)) (gk : gaK X.K C = some c) (own : PySem.W.excIn X.K c He.veBase "ValueError.__new__" = true) (kp : PySem.W.keepIn X.K (.ref c) = true)
    (sb : PySem.W.subIn X.K (.ref c) (.type "BaseException") = some true) (ty : PySem.W.typeIn X.K (.ref c) = some (.type "type")) (hdb : (C == ("__debug__" : Str)) = false) :
    PS X (.Raise (some (.Call (.Name C p) [.Constant (.str m) j p2] [] cpos)) none pos) (LS X.K W (wRaise C)) :=
  PS.of (ps_raise hc tk (pmk_own PySem.F.excBase_ValueError own hm kp (raises_own sb ty) hg hdb)) fun D σ H ⟨B, ρ, g, D0, rs, w, q, k⟩ =>
    k.ex ⟨C, none⟩ ρ g _ _ σ H q (.plain gk) rs w (Fr.refl _ _)
theorem RepS.setO {K : PySem.W.Frag} {H : Hp} {g : GH} {σ : L2.St} {ρ : DEnv} {v : V} {d : D} (r : RepS K H g σ ρ) (q : Rep K H g v d) (i : Nat) : RepS K H g (σ.set i (some v)) (ρ.set i (some d)) := r.set q
theorem s_try_as {cC : Addr} (E : ExcW X.K xs) (hC : C ∈ upN :: xs) (hm : X.mg C = some (.ref cC)) (gk : gaK X.K C = some cC) (hg : Gl X C) (hdb : (C == ("__debug__" : Str)) = false)
    (hs : X.stack = X.env :: X.outer) (hf : X.env.frame = some X.env.locals) (hN : X.N.Nodup) (hi : X.N[i]? = some n) (hln : X.env.kindOf n = some .local) (tk : Takes X W)
    (hb : ∀ (W : WX) (pn : List (Addr × Obj)) (xe : Value → Shared → Prop), Takes (X.tr pn xe) W → PassesOwn (model X.prog X.w) X.A X.env xe → PSs (X.tr pn xe) body (LS X.K W tb))
    (hsu : ∀ (a : Addr) (pn : List (Addr × Obj)), PSs (X.suite a pn) (one :: suite) (LS X.K (fun _ _ _ _ => False) ts)) :
    PS X (.Try body [.ExceptHandler (some (.Name C np)) (some n) (one :: suite) pos'] [] [] pos) (LS X.K W (wTry xs C (some i) tb ts)) := by
  refine PS.of (ps_try_kept (c := .ref cC) (i := i) (tb := fun W => LS X.K W tb) (ts := fun _ _ _ => LS X.K (fun _ _ _ _ => False) ts) hs hf hN hi hln ⟨hg, hdb, .inl hm⟩ tk hb fun a _ _ pn => hsu a pn) fun D σ H ⟨B, ρ, g, D0, rs, w, q, k⟩ => ?_
  refine ⟨B, ρ, g, _, rs, w, q, ⟨k.nx, k.rt, k.ct, fun x ρ' g' cls d σ' H' ⟨hx, h1, h2⟩ xo rs' w' f' => ?_⟩⟩
  obtain ⟨c, gc, rfl⟩ := xo.inv
  obtain ⟨o1, o2, o3, o4, o5, o6⟩ := E.one x.C hx
  obtain ⟨p1, p2, p3⟩ := E.two x.C hx C hC
  rw [gc] at o1; cases o1
  rw [gk] at p1; cases p1
  refine ⟨_, p2, fun hy a na => ?_, fun hn => k.ex x ρ' g' _ d σ' H' (h2 hn) xo rs' w' f'⟩
  obtain ⟨f2, w2, ga⟩ := Fr.laidV (u := .ext (IsX a (.ref (He.ga X.K x.C)) d)) na w'
  have rx : Rep X.K (hide (upd H' a (.ext (IsX a (.ref (He.ga X.K x.C)) d))) B) g' (.ref a) (.exc x.C x.n) := by
    have ha : hide (upd H' a (.ext (IsX a (.ref (He.ga X.K x.C)) d))) B a = some (.ext (IsX a (.ref (He.ga X.K x.C)) d)) := by rw [hide_out (w'.new na)]; exact upd_same
    generalize hx' : x = x' at *
    cases xo with
    | plain g1 => exact .exc0 g1 ha ga
    | @dict C0 c0 d0 i0 g1 g2 g3 =>
      have g2' := (of_hide g2)
      have ne : d0 ≠ a := ne_of_none g2'.1 na
      exact .exc1 g1 ha ga (by rw [hide_out g2'.2, upd_ne ne]; exact g2'.1) g3
  exact ⟨B, _, g', _, (rs'.fv w' f2).set rx, w2, h1 hy, ⟨fun ρ2 g2 σ2 H2 q2 r2 w2 f3 => k.nx _ g2 _ H2 q2 r2.forget w2 (f'.trans (f2.trans f3)), k.rt.after (f'.trans f2),
    fun ρ2 g2 σ2 H2 q2 r2 w2 f3 => k.ct _ g2 _ H2 q2 r2.forget w2 (f'.trans (f2.trans f3)), fun _ _ _ _ _ _ _ z => z.elim⟩⟩
theorem s_try_only {cC : Addr} (E : ExcW X.K xs) (hC : C ∈ upN :: xs) (hm : X.mg C = some (.ref cC)) (gk : gaK X.K C = some cC) (hg : Gl X C) (hdb : (C == ("__debug__" : Str)) = false)
    (hs : X.stack = X.env :: X.outer) (hf : X.env.frame = some X.env.locals) (tk : Takes X W)
    (hb : ∀ (W : WX) (pn : List (Addr × Obj)) (xe : Value → Shared → Prop), Takes (X.tr pn xe) W → PassesOwn (model X.prog X.w) X.A X.env xe → PSs (X.tr pn xe) body (LS X.K W tb))
    (hsu : ∀ (a : Addr) (pn : List (Addr × Obj)), PSs (X.suite a pn) (one :: suite) (LS X.K (fun _ _ _ _ => False) ts)) :
    PS X (.Try body [.ExceptHandler (some (.Name C np)) none (one :: suite) pos'] [] [] pos) (LS X.K W (wTry xs C none tb ts)) := by
  refine PS.of (ps_try_only (c := .ref cC) (tb := fun W => LS X.K W tb) (ts := fun _ _ _ => LS X.K (fun _ _ _ _ => False) ts) hs hf ⟨hg, hdb, .inl hm⟩ tk hb fun a oe _ _ pn _ _ => hsu a ((a, oe) :: pn)) fun D σ H ⟨B, ρ, g, D0, rs, w, q, k⟩ => ?_
  refine ⟨B, ρ, g, _, rs, w, q, ⟨k.nx, k.rt, k.ct, fun x ρ' g' cls d σ' H' ⟨hx, h1, h2⟩ xo rs' w' f' => ?_⟩⟩
  obtain ⟨c, gc, rfl⟩ := xo.inv
  obtain ⟨o1, o2, o3, o4, o5, o6⟩ := E.one x.C hx
  obtain ⟨p1, p2, p3⟩ := E.two x.C hx C hC
  rw [gc] at o1; cases o1
  rw [gk] at p1; cases p1
  refine ⟨_, p2, fun hy a na => ?_, fun hn => k.ex x ρ' g' _ d σ' H' (h2 hn) xo rs' w' f'⟩
  exact ⟨B, ρ', g', _, rs', w', h1 hy, ⟨fun ρ2 g2 σ2 H2 q2 r2 w2 f3 => k.nx _ g2 _ H2 q2 r2 w2 (f'.trans f3), k.rt.after f',
    fun ρ2 g2 σ2 H2 q2 r2 w2 f3 => k.ct _ g2 _ H2 q2 r2 w2 (f'.trans f3), fun _ _ _ _ _ _ _ z => z.elim⟩⟩
end
/-! ### a call by value: a def out of a table -/
abbrev Tab := List (Str × GSp)
def wCallv (tab : Tab) (to : TD) (tr : TAD) : TD := fun ρ g Q W => to ρ g (fun r g1 => match r with
  | .v (.gl x) => ∃ sp, (x, sp) ∈ tab ∧ tr ρ g1 (fun ds g2 => sp ds g2 Q W) W
  | _ => False) W
section
variable {X : Cx} {W : L2.WX} {f e : Expr} {es : List Expr} {pos : Pos} {to : TD} {tr : TAD} {tab : Tab} {k : Nat}
theorem q_callv (hF : ∀ x sp, (x, sp) ∈ tab → ∃ a fd ps j, j ≤ k ∧ FnG X.prog X.w X.K X.mg X.base j a fd ps sp ∧ gaK X.K x = some a ∧ PySem.W.keepIn X.K (.ref a) = true ∧ Binds X.K fd ps []) (gu : X.A.guards = some []) (hr : Room k X.A) (tk : Takes X W)
    (hf : PE X f (LE X.K (WE W) to)) (ha : PA X (e :: es) (LA X.K (WE W) tr)) (hC : ∀ env, eval (.Call f (e :: es) [] pos) env = (do callWith pos (← eval f env) [] (backTo pos (starEach (e :: es) env)) (backToKw pos (keywordEach [] env))))
    (he : starEach (e :: es) X.env = (false, eval e X.env) :: starEach es X.env) (hpl : (backTo pos (starEach es X.env)).any (·.1) = false) :
    PE X (.Call f (e :: es) [] pos) (LE X.K (WE W) (wCallv tab to tr)) := by
  constructor
  rintro pins s σ H Q I ⟨B, ρ, g, Q0, W0, rs, w, t, c, xc⟩
  refine Call_ (thn (hf.run pins s σ H (fun v H1 => ∃ x a sp, v = .ref a ∧ gaK X.K x = some a ∧ (x, sp) ∈ tab ∧ LA X.K (WE W) tr σ H1 fun vs H2 => liftSp X.K sp vs H2 Q (WE W σ)) I ⟨B, ρ, g, _, W0, rs, w, t, fun r g1 v H1 hq rv w1 f1 _ => ?_, xc⟩) ?_) (hC X.env)
  · match r, rv, hq with
    | .v (.gl x), .gl e, ⟨sp, hsp, hq⟩ =>
      exact ⟨x, _, sp, rfl, e, hsp, B, ρ, g1, _, W0, rs.fv w f1, w1, hq, fun ds g2 vs H2 q2 rvs w2 f2 => ⟨B, g2, ds, Q0, W0, w2, rvs, q2, c.after (f1.trans f2), xc.after (f1.trans f2)⟩, xc.after f1⟩
  · rintro u s1 ⟨v, H1, I1, rv, x, a, sp, rfl, gx, hsp, hla⟩
    obtain rfl : u = Value.ref a := rv
    obtain ⟨a', fd, ps, j, hj, F, ga, kp, bd⟩ := hF x sp hsp
    rw [gx] at ga; cases ga
    refine PySem.W.callWith_K I1.ok.mod.kin kp (thn (ha.run pos pins s1 σ H1 _ I1 hla) ?_) he hpl
    rintro us s2 ⟨vs, H2, I2, r, q⟩
    exact ⟨I2.kIn, F.at_ gu (hr.mono hj) bd tk I2 r q⟩
end
end G3
/-! G3v: classes of exceptions with an __init__ of their own, which keeps a number in the field at -/
namespace G3
open PySem PySem.Spec PyProof.Rows L2
/-! ### a def that keeps a promise over the heap as it is -/
section
variable {P : Program} {w : World} {K : PySem.W.Frag} {mg : Str → Option Value} {base : Heap}
theorem fnok_by {x qual : Str} {pm : Arguments} {bd : List Stmt} {sc : Scope} {f : Addr} {fd : FuncData} {N ps : List Str} {k : Nat} {sp : Sp} {t : TS} (F : FunD K x qual pm bd sc [] [] f fd) (S : FnScope N ps sc) (len : ∀ vs H Q E, sp vs H Q E → vs.length = ps.length)
    (hb : ∀ (cdv : Value) (A : Around) (outer : List PySem.Env) (s : Shared) (H : Hp) (Z : XK), Room k (A.deeper (PyProof.Rows.envOfC qual sc s.heap.objs.size f cdv)) →
      PSs (cxOf (L2.CX P w) P w K mg base N qual sc f cdv A outer s H Z) bd t)
    (hw : ∀ vs H Q E, sp vs H Q E → t { nx := fun _ H' => Q .non H', rt := Q, bk := fun _ _ => False, ct := fun _ _ => False } (L2.start N vs) H) : FnOk P w K mg base (L2.CX P w) (k + 1) f fd ps sp := by
  obtain ⟨oc, od, dV, kV, doc, pm', an, cdv, ct, osl, rfl, lk, hcd, _, _⟩ := F.ex
  refine ⟨len, fun A outer s H args us vs Q Z hr e0 hbd r h => ?_⟩
  have hl := len _ _ _ _ h
  have KX : K.In s.heap := e0.mod.kin.keeps fun b o e => (e0.bs b o e).1
  have kinds : ∀ y ∈ ps.zip us, sc.names.lookup y.1 = some .local ∨ (sc.names.lookup y.1 = some .cell ∧ ((PySem.cellsFrom (s.heap.objs.size + 1) sc.names []).lookup y.1).isSome = true) := by
    rintro ⟨n, v⟩ hy
    exact (S.par n (List.of_mem_zip hy).1).imp id fun q => ⟨q, PySem.W.cellsFrom_some _ _ _ (.inl q)⟩
  refine codeAny_call_function hr.depth (KX _ _ lk) rfl S.co S.gen rfl (PySem.W.codeRec_of KX hcd) (hbd _ _ _ _ ?_)
  refine wpAny_newFunctionEnv_cells S.kind kinds ?_
  rintro _ rfl s1 x1
  refine ⟨(e0.mod.nolimit.keeps fun b o e => (e0.bs b o e).1).keeps x1.toInCall.keep, codeAny_func ?_⟩
  have I := inv_start (CX := L2.CX P w) (E := Z) S hr.hd e0 hl r x1
  refine wpAny_mono ((hb cdv A outer s H Z (hr.deeper _)).run [] s1 _ H _ I (hw vs H Q Z h)) ?_ fun _ _ q => q
  intro fl s2 q
  match fl, q with
  | .next, q =>
    obtain ⟨σ', H', J, q⟩ := q
    exact ⟨.non, H', J.os, J.bare, J.base, J.hok, rfl, q⟩
  | .brk, q | .cont, q => obtain ⟨_, _, _, q⟩ := q; exact q.elim
  | .ret u, q =>
    obtain ⟨v, σ', H', J, rv, q⟩ := q
    exact ⟨v, H', J.os, J.bare, J.base, J.hok, rv, q⟩
end
/-- S.__init__ is ValueError's -/
structure UpC (K : PySem.W.Frag) (S : Addr) (mc : Value) : Prop where
  rd : PySem.W.readsIn K S mc = true
  ga : PySem.W.specialIn K (.ref S) "__getattribute__" = some (some (.builtin "type.__getattribute__"))
  at_ : PySem.W.findCls K (.ref S) mc "__init__" = some (.val (.builtin "ValueError.__init__"))
section
variable {X : Cx} {x : Str} {e : Expr} {es : List Expr} {ta : TA} {p1 p2 pos : Pos} {S : Addr} {mc : Value}
theorem pe_upinit (hg : Gl X x) (hm : X.mg x = some (.ref S)) (U : UpC X.K S mc) (ha : PA X (e :: es) ta) (hdb : (x == ("__debug__" : Str)) = false) (hline : (p2.endLine == pos.line) = true)
    (few : methodCallForm ((e :: es).length + ([] : List Keyword).length) (backTo pos (starEach (e :: es) X.env)) (backToKw pos (keywordEach [] X.env)) = true)
    (he : starEach (e :: es) X.env = (false, eval e X.env) :: starEach es X.env := by rfl) (hpl : (backTo pos (starEach es X.env)).any (·.1) = false := by rfl) :
    PE X (.Call (.Attribute (.Name x p1) "__init__" p2) (e :: es) [] pos) (tVeI X.K ta) := by
  refine ⟨fun pins s σ H Q I h => ?_⟩
  have at_pos : methodCallPos true (.Name x p1) X.env p2 pos = pure pos := by unfold methodCallPos; simp [hline]
  rw [arm_eval_Call, show attributeBase (.Name x p1) "__init__" X.env (eval (.Name x p1) X.env) = eval (.Name x p1) X.env from rfl]
  refine wpAny_bind (ld_glob I hg hm ?_ hdb)
  refine wpAny_bind (wpAny_standAt ?_)
  unfold methodCall
  rw [few]
  refine wpAny_bind (wpAny_holding (PySem.W.method_cls I.kIn U.ga (PySem.W.cls_value I.kIn U.rd U.at_ (by decide +kernel) ?_)))
  refine wpAny_bind (wpAny_of_eq at_pos ?_)
  show wpAny _ _ (callWith pos (Value.builtin "ValueError.__init__") [] (backTo pos (starEach (e :: es) X.env)) []) _ _ _
  refine PyProof.Rows.callWith_method1 (thn (ha.run pos pins _ σ H _ (I.tok _) h) fun us s1 ⟨vs, H1, I1, r1, a, C, ws, ev, hl, T, ea, q⟩ => ?_) he hpl
  subst ev
  match r1 with
  | .cons ra rw' =>
    cases ra
    exact oinit_ok T I1 ea (by rw [← Paired.length rw', sizeLine_eq]; omega) fun s' J => ⟨.non, H1, J, rfl, q⟩
end
/-- the promise of such an __init__: the number stands in a new dict -/
def spAt (K : PySem.W.Frag) : Sp := fun vs H Q _ => ∃ (a C : Addr) (y : V), vs = [.ref a, y] ∧ OexC K C ∧ PySem.W.findIn K (.ref C) "at" = some none ∧ H a = some (exo a C none) ∧ ∀ dx, H dx = none → dx ≠ a → Q .non (upd (upd H dx (exd dx [("at", y)])) a (exo a C (some dx)))
def initB (sc : Scope) : List Stmt → Bool
  | [.Expr (.Call (.Attribute (.Name x _) i ap) [.Name s1 _, .Constant (.str _) _ _] [] cp) _, .Assign [.Attribute (.Name s2 _) a _] (.Name y _) _] =>
    (ap.endLine == cp.line) && (decide (x = ("SpareError" : Str)) && (decide (i = ("__init__" : Str)) && (decide (s1 = ("self" : Str)) && (decide (s2 = ("self" : Str)) && (decide (a = ("at" : Str)) && (decide (y = ("at" : Str)) &&
      (match sc.names.lookup ("SpareError" : Str) with | some .globalImplicit => true | _ => false)))))))
  | _ => false
theorem init_body {X : Cx} {S : Addr} {mc : Value} {p1 p2 p3 p4 p5 p6 p7 p8 p9 p0 : Pos} {m : Str} {j : Nat} (hN : X.N = ([("self" : Str), ("at" : Str)] : List Str)) (v1 : L2.Vis X.env.scope "self") (v2 : L2.Vis X.env.scope "at") (hg : Gl X "SpareError") (hm : X.mg "SpareError" = some (.ref S)) (U : UpC X.K S mc) (hline : (p2.endLine == p5.line) = true) :
    PSs X [.Expr (.Call (.Attribute (.Name "SpareError" p1) "__init__" p2) [.Name "self" p3, .Constant (.str m) j p4] [] p5) p6, .Assign [.Attribute (.Name "self" p7) "at" p8] (.Name "at" p9) p0]
      (tSeq (tDrop (tVeI X.K (tCons (tVar 0) (tCons (tC (.str m)) tNil)))) (tSeq (tOst X.K "at" (tVar 0) (tVar 1)) tNext)) := by
  have q0 : ∀ {p}, PE X (.Name "self" p) (tVar 0) := fun {p} => pe_var (x := "self") (by rw [hN]; rfl) v1
  have q1 : ∀ {p}, PE X (.Name "at" p) (tVar 1) := fun {p} => pe_var (x := "at") (by rw [hN]; rfl) v2
  exact pss_cons (ps_expr (pe_upinit hg hm U (pa_cons q0 (pa_cons pe_str pa_nil)) (by decide +kernel) hline rfl)) (pss_cons (ps_ost q0 q1) pss_nil)
theorem init_ok {P : Program} {w : World} {K : PySem.W.Frag} {mg : Str → Option Value} {base : Heap} {x qual : Str} {pm : Arguments} {bd : List Stmt} {sc : Scope} {f S : Addr} {fd : FuncData} {mc : Value} (F : FunD K x qual pm bd sc [] [] f fd)
    (Sc : FnScope ["self", "at"] ["self", "at"] sc) (hbd : initB sc bd = true) (hm : mg "SpareError" = some (.ref S)) (U : UpC K S mc) : FnOk P w K mg base (L2.CX P w) 1 f fd ["self", "at"] (spAt K) := by
  unfold initB at hbd
  split at hbd
  · simp only [Bool.and_eq_true, decide_eq_true_eq] at hbd
    obtain ⟨hl, rfl, rfl, rfl, rfl, rfl, rfl, hgl⟩ := hbd
    have loc : ∀ y ∈ (["self", "at"] : List Str), L2.Vis sc y := fun y hy => (Sc.par y hy).imp id .inl
    have hgl' : sc.names.lookup ("SpareError" : Str) = some .globalImplicit := by
      split at hgl
      · assumption
      · cases hgl
    rename_i ms _ _ _ _ _ _ _ _
    refine fnok_by (t := tSeq (tDrop (tVeI K (tCons (tVar 0) (tCons (tC (.str ms)) tNil)))) (tSeq (tOst K "at" (tVar 0) (tVar 1)) tNext)) F Sc (fun vs H Q E ⟨a, C, y, e, _⟩ => by subst e; rfl) (fun cdv A outer s H Z hr => init_body (X := cxOf (L2.CX P w) P w K mg base ["self", "at"] qual sc f cdv A outer s H Z) rfl (loc _ List.mem_cons_self) (loc _ (List.mem_cons_of_mem _ List.mem_cons_self)) hgl' hm U hl) fun vs H Q E ⟨a, C, y, e, T, hno, ea, q⟩ => ?_
    subst e
    refine ⟨V.ref a, rfl, a, C, _, rfl, by simp, T, ea, y, rfl, V.ref a, rfl, a, C, rfl, T, hno, .inl ⟨ea, fun dx n ne => ?_⟩⟩
    exact q dx n ne
  · cases hbd
/-! ### over data -/
/-- a class that is made with a number -/
structure AtC (P : Program) (w : World) (K : PySem.W.Frag) (mg : Str → Option Value) (base : Heap) (C : Str) : Prop where
  ex : ∃ c fI fd, gaK K C = some c ∧ mg C = some (.ref c) ∧ OexC K c ∧ PySem.W.findIn K (.ref c) "__init__" = some (some (.ref fI)) ∧ PySem.W.typeIn K (.ref fI) = some (.type "function") ∧ PySem.W.findIn K (.ref c) "at" = some none ∧
    FnOk P w K mg base (L2.CX P w) 1 fI fd ["self", "at"] (spAt K) ∧ Binds K fd ["self", "at"] []
/-- raise C(n) -/
def wRaiseAt (C : Str) (te : TD) : TSD := fun D ρ g => te ρ g (fun r g1 => match r with | .v (.int i) => D.ex ⟨C, some i⟩ ρ g1 | _ => False) (fun x g1 => D.ex x ρ g1)
section
variable {X : Cx} {W : L2.WX} {C : Str} {p cpos pos : Pos} {e : Expr} {te : TD}
theorem mk_at {H1 : Hp} {K : PySem.W.Frag} {c : Addr} {y : V} {Q : XK} (T : OexC K c) (hno : PySem.W.findIn K (.ref c) "at" = some none) (q : ∀ dx, H1 dx = none → Q (.ref c) (some dx) (upd H1 dx (.xd [("at", y)]))) :
    ∀ a, H1 a = none → spAt K (.ref a :: ([y] ++ [])) (upd H1 a (exo a c none)) (fun v H2 => v = .non ∧ ∃ (d : Addr) (fs : List (Str × V)), H2 a = some (exo a c (some d)) ∧ H2 d = some (exd d fs) ∧ H1 d = none ∧ Q (.ref c) (some d) (upd (del H2 a) d (.xd fs))) (fun _ _ _ => False) := by
  intro a na
  refine ⟨a, c, y, rfl, T, hno, upd_same, fun dx nx ne => ?_⟩
  rw [upd_ne ne] at nx
  refine ⟨rfl, dx, _, upd_same, by rw [upd_ne ne, upd_same], nx, ?_⟩
  have e : upd (del (upd (upd (upd H1 a (exo a c none)) dx (exd dx [("at", y)])) a (exo a c (some dx))) a) dx (.xd [("at", y)]) = upd H1 dx (.xd [("at", y)]) := by
    funext b
    by_cases h1 : b = dx
    · subst h1; rw [upd_same, upd_same]
    · rw [upd_ne h1, upd_ne h1]
      by_cases h2 : b = a
      · subst h2; rw [del_same, na]
      · rw [del_ne h2, upd_ne h2, upd_ne h1, upd_ne h2]
  rw [e]
  exact q dx nx
theorem s_raiseAt {k : Nat} (hr : Room (k + 2) X.A) (hc : X.calm = true) (tk : Takes X W) (hg : Gl X C) (A : AtC X.prog X.w X.K X.mg X.base C) (hdb : (C == ("__debug__" : Str)) = false) (he : PE X e (LE X.K (WE W) te)) (hs : starEach [e] X.env = [(false, eval e X.env)]) :
    PS X (.Raise (some (.Call (.Name C p) [e] [] cpos)) none pos) (LS X.K W (wRaiseAt C te)) := by
  obtain ⟨c, fI, fd, gk, hm, T, iC, tI, hno, F, bd⟩ := A.ex
  refine PS.of (ps_raise hc tk (pmk_oex (ds := []) (dvs := []) (ta := tCons (LE X.K (WE W) te) tNil) T iC tI F (hr.mono (by omega)) bd .nil (passes_call tk fun _ _ _ _ z => z.elim) hg hm (pa_cons he pa_nil hs) hdb hs rfl)) fun D σ H ⟨B, ρ, g, D0, rs, w, q, k⟩ => ?_
  refine ⟨B, ρ, g, _, _, rs, w, q, fun r g1 v H1 hq rv w1 f1 _ => ?_, k.xc rs w⟩
  match r, rv, hq with
  | .v (.int i), rv, hq =>
    obtain rfl := int_of rv
    refine ⟨by simp, mk_at (Q := fun cls d H2 => W cls d σ H2) T hno fun dx nx => ?_⟩
    obtain ⟨f2, w2, gd⟩ := Fr.laidV (u := .xd [("at", .int i)]) nx w1
    exact k.ex ⟨C, some i⟩ ρ g1 _ _ σ _ hq (.dict gk (by rw [hide_out (w1.new nx)]; exact upd_same) gd) ((rs.fv w f1).fv w1 f2) w2 (f1.trans f2)
end
end G3
/-! G3v2: exceptions made and kept as things; their field at -/
namespace G3
open PySem PySem.Spec PyProof.Rows L2
section
variable {X : Cx}
theorem pe_mk {e : Expr} {t : L2.St → Hp → XK → Prop} (h : PMk X e t) : PE X e (fun σ H Q => t σ H fun cls d H' => ∀ a, H' a = none → Q (.ref a) (upd H' a (.ext (IsX a cls d)))) := by
  constructor
  intro pins s σ H Q I hq
  refine thn (h pins s σ H _ I hq) ?_
  rintro u s1 ⟨a, oe, vs, sI, H1, cls, d, rfl, J, keep, none_, at_a, hz, hd, -, na, os, bare, -, q⟩
  have J1 : Inv X pins σ H1 s1 := by
    obtain ⟨h1, g1, d1, t1, o1⟩ := s1
    obtain rfl : o1 = sI.os := os
    exact Inv.call (ch := []) J ⟨fun b o e n _ _ => keep b o e, fun b o e n _ _ => ⟨o.slots, keep b o e⟩, fun b o e n _ => n, fun b o e _ => ⟨o, keep b o e⟩, fun b xs e => e, fun b o u e => e, fun b ps e => ⟨#[], by rw [e]; simp⟩⟩ (J.hok.kept keep) bare (fun _ z => nomatch z)
  have no : ∀ o, sI.heap.get? a ≠ some o := fun o z => by rw [none_] at z; cases z
  refine ⟨.ref a, _, inv_track (u := .ext (IsX a cls d)) J1 na (fun o e => ?_) ?_ (fun x c e z => ?_) (fun p hp z => ?_) ⟨⟨oe, vs, at_a, hz.1, hz.2, hd⟩, ⟨oe, at_a⟩, IsX.stay⟩, rfl, q a na⟩
  · by_cases m : a ∈ X.ex
    · exact m
    · obtain ⟨o', e'⟩ := J.base.there a o e m
      exact absurd e' (no o')
  · intro z
    obtain ⟨m, ⟨o, _, _, e, _⟩, _⟩ := J.loc
    exact no o (z ▸ e)
  · obtain ⟨v, q⟩ := J.cell x c e
    obtain ⟨o, q⟩ : ∃ o, sI.heap.get? c = some o := by
      obtain ⟨_, e', _⟩ := q
      exact ⟨_, e'⟩
    exact no o (z ▸ q)
  · exact no _ (z ▸ (J.pin p hp).1)
end
/-- C(x), a class without an own __init__ -/
def wMk (C : Str) (te : TD) : TD := fun ρ g Q W => te ρ g (fun _ g1 => Q (.v (.exc C none)) g1) W
/-- C(n), a class with the field at -/
def wMkAt (C : Str) (te : TD) : TD := fun ρ g Q W => te ρ g (fun r g1 => match r with | .v (.int i) => Q (.v (.exc C (some i))) g1 | _ => False) W
section
variable {X : Cx} {W : L2.WX} {C : Str} {p cpos : Pos} {e : Expr} {te : TD}
theorem q_mk {c : Addr} (hg : Gl X C) (hm : X.mg C = some (.ref c)) (gk : gaK X.K C = some c) (own : PySem.W.excIn X.K c He.veBase "ValueError.__new__" = true) (kp : PySem.W.keepIn X.K (.ref c) = true)
    (sb : PySem.W.subIn X.K (.ref c) (.type "BaseException") = some true) (ty : PySem.W.typeIn X.K (.ref c) = some (.type "type")) (hdb : (C == ("__debug__" : Str)) = false) (he : PE X e (LE X.K (WE W) te)) (hs : starEach [e] X.env = [(false, eval e X.env)]) :
    PE X (.Call (.Name C p) [e] [] cpos) (LE X.K (WE W) (wMk C te)) := by
  refine PE.of (pe_mk (pmk_ownA PySem.F.excBase_ValueError own hm kp (raises_own sb ty) hg (pa_cons he pa_nil hs) hdb hs rfl)) fun σ H Q ⟨B, ρ, g, Q0, W0, rs, w, t, k, xc⟩ => ?_
  refine ⟨B, ρ, g, _, W0, rs, w, t, fun r g1 v H1 hq rv w1 f1 _ => ⟨by show 1 ≤ sizeLine; rw [sizeLine_eq]; omega, fun a na => ?_⟩, xc⟩
  obtain ⟨f2, w2, ga⟩ := Fr.laidV (u := .ext (IsX a (.ref c) none)) na w1
  exact k (.v (.exc C none)) g1 _ _ hq (.exc0 gk (by rw [hide_out (w1.new na)]; exact upd_same) ga) w2 (f1.trans f2) .no
theorem q_mkAt {k : Nat} (hr : Room (k + 2) X.A) (hg : Gl X C) (A : AtC X.prog X.w X.K X.mg X.base C) (tk : Takes X W) (hdb : (C == ("__debug__" : Str)) = false) (he : PE X e (LE X.K (WE W) te)) (hs : starEach [e] X.env = [(false, eval e X.env)]) :
    PE X (.Call (.Name C p) [e] [] cpos) (LE X.K (WE W) (wMkAt C te)) := by
  obtain ⟨c, fI, fd, gk, hm, T, iC, tI, hno, F, bd⟩ := A.ex
  refine PE.of (pe_mk (pmk_oex (ds := []) (dvs := []) (ta := tCons (LE X.K (WE W) te) tNil) T iC tI F (hr.mono (by omega)) bd .nil (passes_call tk fun _ _ _ _ z => z.elim) hg hm (pa_cons he pa_nil hs) hdb hs rfl)) fun σ H Q ⟨B, ρ, g, Q0, W0, rs, w, t, k, xc⟩ => ?_
  refine ⟨B, ρ, g, _, W0, rs, w, t, fun r g1 v H1 hq rv w1 f1 _ => ?_, xc⟩
  match r, rv, hq with
  | .v (.int i), rv, hq =>
    obtain rfl := int_of rv
    refine ⟨by simp, mk_at (Q := fun cls d H' => ∀ a, H' a = none → Q (.ref a) (upd H' a (.ext (IsX a cls d)))) T hno fun dx nx a na => ?_⟩
    obtain ⟨f2, w2, gd⟩ := Fr.laidV (u := .xd [("at", .int i)]) nx w1
    obtain ⟨f3, w3, ga⟩ := Fr.laidV (u := .ext (IsX a (.ref c) (some dx))) na w2
    have ne : dx ≠ a := fun z => by rw [← z, upd_same] at na; cases na
    exact k (.v (.exc C (some i))) g1 _ _ hq (.exc1 gk (by rw [hide_out (w2.new na)]; exact upd_same) ga (by rw [hide_out (w1.new nx), upd_ne ne]; exact upd_same) gd) w3 (f1.trans (f2.trans f3)) .no
/-- e.at -/
def wAt (xs : List Str) (te : TD) : TD := fun ρ g Q W => te ρ g (fun r g1 => match r with | .v (.exc C (some i)) => C ∈ xs ∧ Q (.v (.int i)) g1 | _ => False) W
theorem q_at {xs : List Str} {pos : Pos} (E : ExcW X.K xs) (he : PE X e (LE X.K (WE W) te)) (hb : attributeBase e "at" X.env (eval e X.env) = eval e X.env) : PE X (.Attribute e "at" pos) (LE X.K (WE W) (wAt xs te)) := by
  refine PE.of (pe_xat he hb) fun σ H Q ⟨B, ρ, g, Q0, W0, rs, w, t, k, xc⟩ => ?_
  refine ⟨B, ρ, g, _, W0, rs, w, t, fun r g1 v H1 hq rv w1 f1 _ => ?_, xc⟩
  match r, rv, hq with
  | .v (.exc C (some i)), .exc1 h1 h2 h3 h4 h5, ⟨hC, hq⟩ =>
    obtain ⟨o1, o2, o3, o4, o5, o6⟩ := E.one C hC
    rw [h1] at o1; cases o1
    exact ⟨_, _, _, _, _, rfl, ⟨(of_hide h2).1, _, (of_hide h4).1⟩, (of_hide h4).1, ⟨o2.hg, o2.hk, o2.hs, o2.hd⟩, o4, rfl, (k.after f1).here hq (.int i) w1⟩
end
end G3
/-! G3p: instances of classes: fields, methods, making one -/
namespace G3
open PySem PySem.Spec PyProof.Rows L2

/-! ### fields -/
def putFD (f : Str) (d : D) : List (Str × D) → List (Str × D)
  | [] => [(f, d)]
  | (g, x) :: r => if g = f then (g, d) :: r else (g, x) :: putFD f d r
section
variable {K : PySem.W.Frag} {H : Hp} {g : GH}
theorem Fields.lookup {f : Str} {d : D} : ∀ {r : List (Str × V)} {s : List (Str × D)}, Fields K H g r s → s.lookup f = some d → ∃ v, r.lookup f = some v ∧ Rep K H g v d
  | _, _, .nil, h => by cases h
  | _, _, .cons (f := k) x t, h => by
    by_cases e : f = k
    · have hb : (f == k) = true := beq_iff_eq.mpr e
      simp only [List.lookup, hb] at h ⊢
      cases h
      exact ⟨_, rfl, x⟩
    · have hb : (f == k) = false := beq_eq_false_iff_ne.mpr e
      simp only [List.lookup, hb] at h ⊢
      exact t.lookup h
theorem Fields.none {f : Str} : ∀ {r : List (Str × V)} {s : List (Str × D)}, Fields K H g r s → s.lookup f = none → r.lookup f = none
  | _, _, .nil, h => rfl
  | _, _, .cons (f := k) x t, h => by
    by_cases e : f = k
    · have hb : (f == k) = true := beq_iff_eq.mpr e
      simp only [List.lookup, hb] at h
      cases h
    · have hb : (f == k) = false := beq_eq_false_iff_ne.mpr e
      simp only [List.lookup, hb] at h ⊢
      exact t.none h
theorem Fields.put {f : Str} {v : V} {d : D} (q : Rep K H g v d) : ∀ {r : List (Str × V)} {s : List (Str × D)}, Fields K H g r s → Fields K H g (putF f v r) (putFD f d s)
  | _, _, .nil => .cons q .nil
  | _, _, .cons (f := k) x t => by
    unfold putF putFD
    split
    · exact .cons q t
    · exact .cons x (Fields.put q t)
theorem Fields.length : ∀ {r : List (Str × V)} {s : List (Str × D)}, Fields K H g r s → r.length = s.length
  | _, _, .nil => rfl
  | _, _, .cons x t => by rw [List.length_cons, List.length_cons, t.length]
theorem trk_ins {B : List Addr} {p : Addr} {C : Str} {xs : List (Str × D)} (w : Vw K B H g) (h : g p = some (.ins C xs)) : ∃ c dx vs, gaK K C = some c ∧ H p = some (.ins c dx vs) ∧ Fields K (hide H B) g vs xs := by
  obtain ⟨u, hu, r⟩ := w.rg p _ h
  cases r with
  | ins hc r => exact ⟨_, _, _, hc, (of_hide hu).1, r⟩
end
/-- e.f, e of the class C -/
def wFld (C f : Str) (te : TD) : TD := fun ρ g Q W => te ρ g (fun r g1 => match r with | .v (.ref a) => ∃ fs d, g1 a = some (.ins C fs) ∧ fs.lookup f = some d ∧ Q (.v d) g1 | _ => False) W
/-- o.m(..), o of the class C -/
def wMeth (C m : Str) (sp : GSp) (te : TD) (tr : TAD) : TD := fun ρ g Q W => te ρ g (fun r g1 => match r with | .v (.ref a) => (∃ fs, g1 a = some (.ins C fs) ∧ fs.lookup m = none) ∧ tr ρ g1 (fun ds g2 => sp (.ref a :: ds) g2 Q W) W | _ => False) W
/-- C(..) -/
def wNew (C : Str) (sp : GSp) (tr : TAD) : TD := fun ρ g Q W => tr ρ g (fun ds g1 => ∀ p, g1 p = none → sp (.ref p :: ds) (gup g1 p (.ins C [])) (fun r g2 => r = .v .non ∧ Q (.v (.ref p)) g2) W) W
/-- o.f = e -/
def wSfld (C f : Str) (to te : TD) : TSD := fun D ρ g => te ρ g (fun r g1 => to ρ g1 (fun x g2 => match x with
  | .v (.ref p) => ∃ fs, g2 p = some (.ins C fs) ∧ fs.length < 1000 ∧ D.nx ρ (gup g2 p (.ins C (putFD f r.fz fs)))
  | _ => False) (fun x g3 => D.ex x ρ g3)) (fun x g3 => D.ex x ρ g3)
section
variable {X : Cx} {W : L2.WX} {C f m : Str} {p pos apos : Pos} {e o value : Expr} {es : List Expr} {te to : TD} {tr : TAD} {sp : GSp} {k : Nat} {fa c : Addr} {fd : FuncData} {ps : List Str}
theorem q_fld (gk : gaK X.K C = some c) (cl : Cls X.K c) (na : NoAttr X.K c f) (he : PE X e (LE X.K (WE W) te)) (hb : attributeBase e f X.env (eval e X.env) = eval e X.env) : PE X (.Attribute e f pos) (LE X.K (WE W) (wFld C f te)) := by
  refine PE.of (pe_fld he hb) fun σ H Q ⟨B, ρ, g, Q0, W0, rs, w, t, k, xc⟩ => ?_
  refine ⟨B, ρ, g, _, W0, rs, w, t, fun r g1 v H1 hq rv w1 f1 _ => ?_, xc⟩
  match r, rv, hq with
  | .v (.ref a), rv, ⟨fs, d, hg, hl, hq⟩ =>
    cases rv
    obtain ⟨c', dx, vs, hc, hH, hf⟩ := trk_ins w1 hg
    rw [gk] at hc; cases hc
    obtain ⟨v, hv, rv⟩ := hf.lookup hl
    exact ⟨a, c, dx, vs, v, rfl, hH, cl, na, hv, (k.after f1).here hq rv w1⟩
theorem s_fld (gk : gaK X.K C = some c) (cl : Cls X.K c) (na : NoAttr X.K c f) (ho : PE X o (LE X.K (WE W) to)) (hv : PE X value (LE X.K (WE W) te)) (hs : swapsWith value (some (.Attribute o f apos)) pos.line X.env = pure false) :
    PS X (.Assign [.Attribute o f apos] value pos) (LS X.K W (wSfld C f to te)) := by
  refine PS.of (ps_fld ho hv hs) fun D σ H ⟨B, ρ, g, D0, rs, w, q, k⟩ => ?_
  refine ⟨B, ρ, g, _, _, rs, w, q, fun r g1 v H1 hq rv w1 f1 _ => ?_, k.xc rs w⟩
  refine ⟨B, ρ, g1, _, _, rs.fv w f1, w1, hq, fun x g2 ov H2 hq rx w2 f2 _ => ?_, (k.after f1).xc (rs.fv w f1) w1⟩
  match x, rx, hq with
  | .v (.ref a), rx, ⟨fs, hg, hl, hq⟩ =>
    cases rx
    obtain ⟨c', dx, vs, hc, hH, hf⟩ := trk_ins w2 hg
    rw [gk] at hc; cases hc
    have f12 := f1.trans f2
    obtain ⟨f3, w3⟩ := Fr.writeV (u' := .ins c dx (putF f v vs)) (o' := .ins C (putFD f r.fz fs)) hH hg (fun _ e => by cases e) (fun _ _ e => by cases e) w2 (.ins gk (hf.put (rv.fv w1 f2)))
    exact ⟨a, c, dx, vs, rfl, hH, cl, na, by rw [hf.length]; exact hl, k.nx ρ _ σ _ hq (rs.fv w (f12.trans f3)) w3 (f12.trans f3)⟩

/-! ### reversed(a list), walked -/
theorem itVL {K : PySem.W.Frag} {B : List Addr} {H0 : Hp} {g0 : GH} {a : Addr} {ds : List D} {gd : GH → Prop} (io : ItOk K B H0 g0 (Itl K a) ds gd) : ItOk K B H0 g0 (Itv K a ds.length) ds.reverse gd := by
  intro B' i H g sB nB w f hg
  obtain ⟨go, st⟩ := io B' (ds.length - 1 - i) H g sB nB w f hg
  refine ⟨fun d hd => ?_, fun hi => by rw [List.length_reverse] at hi; exact Nat.le_of_eq hi.symm⟩
  have hi := (List.getElem?_eq_some_iff.mp hd).1
  rw [List.length_reverse] at hi
  rw [List.getElem?_reverse hi] at hd
  obtain ⟨⟨xs, v, hs, hv⟩, yl⟩ := go d hd
  exact ⟨⟨hi, xs, v, hs, hv⟩, fun x H' hy => yl x H' hy⟩
def wRevL (tr : TAD) : TID := fun ρ g Q W => tr ρ g (fun ds g1 => match ds with | [d] => ∃ xs, lstOf g1 (.v d) xs ∧ Q xs.reverse (gdOf (.v d) xs) g1 | _ => False) W
theorem q_revL {tg : Expr} {E : L2.St → XK} (h : PI X tg e (iRev X.K (LA X.K E tr))) : PI X tg e (LI X.K E (wRevL tr)) :=
  PI.of h fun σ H R ⟨B, ρ, g, Q0, W0, rs, rg, t, c, xc⟩ => ⟨B, ρ, g, _, W0, rs, rg, t, fun ds g1 vs H1 hq rd w1 f1 => by
    match ds, rd, hq with
    | [d], .cons r .nil, ⟨xs, hl, hq⟩ =>
      obtain ⟨a, ws, rfl, ha, rv, io⟩ := lstOf.cases (r := .v d) w1 r hl
      have e := rv.length
      exact ⟨a, ws, rfl, .inl (.inl ha), by rw [e]; exact c _ _ g1 _ H1 hq (itVL io) w1 f1⟩, xc⟩
/-! ### a < b < c < d -/
def tChain3 (r r' r'' : R2) (ta tb tc td : TE) : TE := fun σ H Q => ta σ H fun x H1 => tb σ H1 fun y H2 => r x y H2 fun z H3 => ∃ k, z = .bl k ∧
  (if k = true then tc σ H3 fun w' H4 => r' y w' H4 fun z' H5 => ∃ k', z' = .bl k' ∧ (if k' = true then td σ H5 fun v H6 => r'' w' v H6 Q else Q (.bl false) H5) else Q (.bl false) H3)
theorem pe_chain3 {a b c d : Expr} {ta tb tc td : TE} {op op' op'' : CmpOp} {r r' r'' : R2} (ho : OpR X (compareOp op) r) (ho' : OpR X (compareOp op') r') (ho'' : OpR X (compareOp op'') r'') (ha : PE X a ta) (hb : PE X b tb) (hc : PE X c tc) (hd : PE X d td)
    (hm : lastMarks [op, op', op''] [b, c, d] = false) : PE X (.Compare a [op, op', op''] [b, c, d] pos) (tChain3 r r' r'' ta tb tc td) := by
  refine ⟨fun pins s σ H Q I h => ?_⟩
  refine Compare_chain (thn (ha.run pins s σ H _ I h) fun v s1 ⟨x, H1, I1, r1, q1⟩ => chain_link (thn (hb.run pins s1 σ H1 _ I1 q1) fun u s2 ⟨y, H2, I2, r2, q2⟩ =>
    thn (ho pins s2 σ H2 x y v u _ I2 r1 r2 q2) fun d s3 ⟨z, H3, I3, r3, k, e, q3⟩ => ?_)) hm
  subst e
  cases r3
  refine wpAny_truthy_bool ?_
  cases k with
  | false => exact ite_ff ⟨.bl false, H3, I3, rfl, q3⟩
  | true =>
    refine ite_tt (chain_link (thn (hc.run pins s3 σ H3 _ I3 q3) fun w' s4 ⟨z', H4, I4, r4, q4⟩ => thn (ho' pins s4 σ H4 y z' u w' _ I4 r2 r4 q4) fun d' s5 ⟨z2, H5, I5, r5, k2, e2, q5⟩ => ?_))
    subst e2
    cases r5
    refine wpAny_truthy_bool ?_
    cases k2 with
    | false => exact ite_ff ⟨.bl false, H5, I5, rfl, q5⟩
    | true => exact ite_tt (chain_last (thn (hd.run pins s5 σ H5 _ I5 q5) fun w2 s6 ⟨z3, H6, I6, r6, q6⟩ => ho'' pins s6 σ H6 z' z3 w' w2 Q I6 r4 r6 q6))
theorem pt_chain3 {a b c d : Expr} {ta tb tc td : TE} {op op' op'' : CmpOp} {r r' r'' : R2} (ho : OpR X (compareOp op) r) (ho' : OpR X (compareOp op') r') (ho'' : OpR X (compareOp op'') r'') (ha : PE X a ta) (hb : PE X b tb) (hc : PE X c tc) (hd : PE X d td)
    (hm : lastMarks [op, op', op''] [b, c, d] = false) : PT X (.Compare a [op, op', op''] [b, c, d] pos) (tTest (tChain3 r r' r'' ta tb tc td)) := by
  refine ⟨fun pins s σ H Q I h => ?_⟩
  refine isTrue_chain (thn (ha.run pins s σ H _ I h) fun v s1 ⟨x, H1, I1, r1, q1⟩ => test_link (thn (hb.run pins s1 σ H1 _ I1 q1) fun u s2 ⟨y, H2, I2, r2, q2⟩ =>
    thn (ho pins s2 σ H2 x y v u _ I2 r1 r2 q2) fun d s3 ⟨z, H3, I3, r3, k, e, q3⟩ => ?_)) hm
  subst e
  cases r3
  refine wpAny_truthy_bool ?_
  cases k with
  | false =>
    obtain ⟨k', e', q'⟩ := q3
    cases e'
    exact ite_ff ⟨H3, I3, q'⟩
  | true =>
    refine ite_tt (test_link (thn (hc.run pins s3 σ H3 _ I3 q3) fun w' s4 ⟨z', H4, I4, r4, q4⟩ => thn (ho' pins s4 σ H4 y z' u w' _ I4 r2 r4 q4) fun d' s5 ⟨z2, H5, I5, r5, k2, e2, q5⟩ => ?_))
    subst e2
    cases r5
    refine wpAny_truthy_bool ?_
    cases k2 with
    | false =>
      obtain ⟨k', e', q'⟩ := q5
      cases e'
      exact ite_ff ⟨H5, I5, q'⟩
    | true =>
      refine ite_tt (test_last (thn (hd.run pins s5 σ H5 _ I5 q5) fun w2 s6 ⟨z3, H6, I6, r6, q6⟩ => thn (ho'' pins s6 σ H6 z' z3 w' w2 _ I6 r4 r6 q6) fun d2 s7 ⟨z4, H7, I7, r7, k3, e3, q7⟩ => ?_))
      subst e3
      cases r7
      exact wpAny_truthy_bool ⟨H7, I7, q7⟩
/-- a < b < c < d -/
def wCh3 (f f' f'' : R → R → GH → QK → Prop) (ta tb tc td : TD) : TD := fun ρ g Q W => ta ρ g (fun x g1 => tb ρ g1 (fun y g2 => f x y g2 fun z g3 => match z with
  | .v (.bl k) => if k = true then tc ρ g3 (fun u g4 => f' (.v y.fz) u g4 fun z' g5 => match z' with
    | .v (.bl k') => if k' = true then td ρ g5 (fun v g6 => f'' (.v u.fz) v g6 Q) W else Q (.v (.bl false)) g5
    | _ => False) W else Q (.v (.bl false)) g3
  | _ => False) W) W
theorem q_chain3 {a b d e : Expr} {o1 o2 o3 : R → R → GH → QK → Prop} {ta tb tc td : TD} {r r' r'' : R2} (h1 : R2Ok X.K o1 r) (h2 : R2Ok X.K o2 r') (h3 : R2Ok X.K o3 r'') {σ : L2.St} {H : Hp} {Q : VK} (h : LE X.K (WE W) (wCh3 o1 o2 o3 ta tb tc td) σ H Q) :
    tChain3 r r' r'' (LE X.K (WE W) ta) (LE X.K (WE W) tb) (LE X.K (WE W) tc) (LE X.K (WE W) td) σ H Q := by
  obtain ⟨B, ρ, g, Q0, W0, rs, w, t, c, xc⟩ := h
  refine ⟨B, ρ, g, _, W0, rs, w, t, fun x g1 v H1 hb rx w1 f1 _ => ?_, xc⟩
  refine ⟨B, ρ, g1, _, W0, rs.fv w f1, w1, hb, fun y g2 u H2 hb ry w2 f2 _ => ?_, xc.after f1⟩
  refine h1 v u x y B H2 g2 _ _ (rx.fv w1 f2) ry w2 hb fun z g3 zv H3 hz rz w3 f3 _ => ?_
  have f23 := f2.trans f3
  match z, rz, hz with
  | .v (.bl k), rz, hz =>
    refine ⟨k, bl_of rz, ?_⟩
    cases k with
    | false => exact (c.after (f1.trans f23)).here hz (.bl false) w3
    | true =>
      refine ⟨B, ρ, g3, _, W0, rs.fv w (f1.trans f23), w3, hz, fun z' g4 zv' H4 hb rz' w4 f4 _ => ?_, xc.after (f1.trans f23)⟩
      refine h2 u zv' (.v y.fz) z' B H4 g4 _ _ (ry.fv w2 (f3.trans f4)) rz' w4 hb fun z2 g5 zv2 H5 hz2 rz2 w5 f5 _ => ?_
      have f45 := f4.trans f5
      match z2, rz2, hz2 with
      | .v (.bl k'), rz2, hz2 =>
        refine ⟨k', bl_of rz2, ?_⟩
        cases k' with
        | false => exact (c.after (f1.trans (f23.trans f45))).here hz2 (.bl false) w5
        | true =>
          refine ⟨B, ρ, g5, _, W0, rs.fv w (f1.trans (f23.trans f45)), w5, hz2, fun z3 g6 zv3 H6 hb rz3 w6 f6 _ => ?_, xc.after (f1.trans (f23.trans f45))⟩
          exact h3 zv' zv3 (.v z'.fz) z3 B H6 g6 Q0 Q (rz'.fv w4 (f5.trans f6)) rz3 w6 hb (c.after (f1.trans (f23.trans (f45.trans f6))))
      | .v .non, _, hb | .v (.int _), _, hb | .v (.str _), _, hb | .v (.ty _), _, hb | .v (.ref _), _, hb | .v (.tup _), _, hb | .v (.lst _), _, hb | .v (.rl _), _, hb | .tl _, _, hb => exact hb.elim
  | .v .non, _, hb | .v (.int _), _, hb | .v (.str _), _, hb | .v (.ty _), _, hb | .v (.ref _), _, hb | .v (.tup _), _, hb | .v (.lst _), _, hb | .v (.rl _), _, hb | .tl _, _, hb => exact hb.elim

/-! ### methods -/
/-- what a method's receiver is asked -/
def plainM (o : Expr) (env : PySem.Env) : Sem Bool := do return (← importBound o env).getD true
theorem mcall_M {o : Expr} {m : Str} {apos pos : Pos} {env : PySem.Env} {ov : Value} {n : Nat} {args : List (Bool × Sem Value)} {kws : List (Option Str × Sem Value)} (hf : methodCallForm n args kws = true) (hl : (apos.endLine == pos.line) = true) :
    methodCall o m apos pos env ov n args kws = (do
      let (f, first) ← holding [ov] (getMethod ov m (plainM o env))
      callWith pos f first args kws) := by
  have e1 : calleeOf (methodCallForm n args kws) o env ov m = getMethod ov m (plainM o env) := by
    rw [hf] <;> rfl
  have e2 : methodCallPos (methodCallForm n args kws) o env apos pos = pure pos := by
    unfold methodCallPos
    exact if_pos (by rw [hl, Bool.or_true])
  unfold methodCall
  rw [e1, e2]
  first
    | rfl
    | simp only [pure_bind]
theorem meth_tree {env : PySem.Env} (hb : attributeBase o m env (eval o env) = eval o env) (hf : methodCallForm (es.length + 0) (backTo pos (starEach es env)) (backToKw pos (keywordEach [] env)) = true) (hl : (apos.endLine == pos.line) = true) :
    eval (.Call (.Attribute o m apos) es [] pos) env = (do
      let ov ← eval o env
      standAt apos.atName
      let (f, first) ← holding [ov] (getMethod ov m (plainM o env))
      callWith pos f first (backTo pos (starEach es env)) (backToKw pos (keywordEach [] env))) := by
  rw [arm_eval_Call, hb]
  have e : ∀ ov, methodCall o m apos pos env ov (es.length + ([] : List Keyword).length) (backTo pos (starEach es env)) (backToKw pos (keywordEach [] env)) = _ := fun ov => mcall_M (o := o) (m := m) (ov := ov) hf hl
  simp only [e]
def tMethS (K : PySem.W.Frag) (C : Addr) (m : Str) (sp : GSp) (E : L2.St → XK) (ta : TE) (t : TA) : TE := fun σ H Q => ta σ H fun x H1 => ∃ a dx fs, x = .ref a ∧ H1 a = some (.ins C dx fs) ∧ fs.lookup m = none ∧
  t σ H1 fun vs H2 => liftSp K sp (x :: vs) H2 Q (E σ)
theorem meth_imp {K : PySem.W.Frag} (gk : gaK K C = some c) {σ : L2.St} {H : Hp} {Q : VK} (h : LE K (WE W) (wMeth C m sp te tr) σ H Q) : tMethS K c m sp (WE W) (LE K (WE W) te) (LA K (WE W) tr) σ H Q := by
  obtain ⟨B, ρ, g, Q0, W0, rs, w, t, k, xc⟩ := h
  refine ⟨B, ρ, g, _, W0, rs, w, t, fun r g1 v H1 hq rv w1 f1 _ => ?_, xc⟩
  match r, rv, hq with
  | .v (.ref a), rv, ⟨⟨fs, hg, hl⟩, hq⟩ =>
    cases rv
    obtain ⟨c', dx, vs, hc, hH, hf⟩ := trk_ins w1 hg
    rw [gk] at hc; cases hc
    refine ⟨a, dx, vs, rfl, hH, hf.none hl, B, ρ, g1, _, W0, rs.fv w f1, w1, hq, fun ds g2 us H2 hq ru w2 f2 => ?_, xc.after f1⟩
    exact ⟨B, g2, _, Q0, W0, w2, .cons (.ref a) ru, hq, k.after (f1.trans f2), xc.after (f1.trans f2)⟩
theorem la_nil0 {K : PySem.W.Frag} {E : L2.St → XK} {σ : L2.St} {H : Hp} {Q : List V → Hp → Prop} (h : LA K E wNil σ H Q) : Q [] H := by
  obtain ⟨B, ρ, g, Q0, W0, rs, w, t, c, xc⟩ := h
  exact c [] g [] H t .nil w (Fr.refl _ _)
theorem q_meth (F : FnG X.prog X.w X.K X.mg X.base k fa fd ps sp) (gu : X.A.guards = some []) (hr : Room k X.A) (gk : gaK X.K C = some c) (cl : Cls X.K c) (hm : Meth X.K c m fa) (hb : Binds X.K fd ps []) (tk : Takes X W)
    (ho : PE X o (LE X.K (WE W) to)) (ha : PA X (e :: es) (LA X.K (WE W) tr)) (hbase : attributeBase o m X.env (eval o X.env) = eval o X.env)
    (hf : methodCallForm ((e :: es).length + 0) (backTo pos (starEach (e :: es) X.env)) (backToKw pos (keywordEach [] X.env)) = true) (hl : (apos.endLine == pos.line) = true)
    (hs : starEach (e :: es) X.env = (false, eval e X.env) :: starEach es X.env) (hp : (backTo pos (starEach es X.env)).any (·.1) = false) :
    PE X (.Call (.Attribute o m apos) (e :: es) [] pos) (LE X.K (WE W) (wMeth C m sp to tr)) := by
  refine PE.of (t' := tMethS X.K c m sp (WE W) (LE X.K (WE W) to) (LA X.K (WE W) tr)) ?_ fun σ H Q h => meth_imp gk h
  refine ⟨fun pins s σ H Q I h => ?_⟩
  refine PySem.W.methodCall_KW (pl := plainM o X.env) (thn (ho.run pins s σ H _ I h) fun u s1 ⟨x, H1, I1, rx, a, dx, fs, ex, ea, l, q⟩ => ?_) (meth_tree hbase hf hl)
  subst ex
  obtain rfl : u = Value.ref a := rx
  refine getmeth_ok I1 ea cl hm l ?_
  refine PySem.W.callWith_K (first := [.ref a]) (h₀ := X.base) I.ok.mod.kin hm.kp (thn (ha.run pos pins s1 σ H1 _ I1 q) fun us s2 ⟨vs, H2, I2, r, q2⟩ => ⟨I2.kIn, ?_⟩) hs hp
  exact F.at_ (us := .ref a :: us) (vs := .ref a :: vs) gu hr hb tk I2 (.cons rfl r) q2
theorem q_meth0 (F : FnG X.prog X.w X.K X.mg X.base k fa fd ps sp) (gu : X.A.guards = some []) (hr : Room k X.A) (gk : gaK X.K C = some c) (cl : Cls X.K c) (hm : Meth X.K c m fa) (hb : Binds X.K fd ps []) (tk : Takes X W)
    (ho : PE X o (LE X.K (WE W) to)) (hbase : attributeBase o m X.env (eval o X.env) = eval o X.env) (hl : (apos.endLine == pos.line) = true) :
    PE X (.Call (.Attribute o m apos) [] [] pos) (LE X.K (WE W) (wMeth C m sp to wNil)) := by
  refine PE.of (t' := tMethS X.K c m sp (WE W) (LE X.K (WE W) to) (LA X.K (WE W) wNil)) ?_ fun σ H Q h => meth_imp gk h
  refine ⟨fun pins s σ H Q I h => ?_⟩
  refine PySem.W.methodCall_KW (pl := plainM o X.env) (thn (ho.run pins s σ H _ I h) fun u s1 ⟨x, H1, I1, rx, a, dx, fs, ex, ea, l, q⟩ => ?_) (meth_tree hbase rfl hl)
  subst ex
  obtain rfl : u = Value.ref a := rx
  refine getmeth_ok I1 ea cl hm l ?_
  exact PySem.W.callWith_K0 (first := [.ref a]) I1.kIn hm.kp (F.at_ (us := [.ref a]) (vs := [.ref a]) gu hr hb tk I1 (.cons rfl .nil) (la_nil0 q))

/-! ### making one -/
theorem make_guards {A : Around} {C : Addr} {us : List Value} {kw : List (Str × Value)} (h : A.guards = some []) : (A.under (.builtin "type.__call__" ⟨.ref C :: us, kw⟩)).guards = some [] := by
  first
    | exact h
    | (simp [Around.under, Code.guards, Code.isGuard, guardIds, pushGuards]; exact h)
theorem run_makeG (M : Mk X.K c fa) (F : FnG X.prog X.w X.K X.mg X.base k fa fd ps sp) (gu : X.A.guards = some []) (hr : Room (k + 1) X.A) (hb : Binds X.K fd ps []) (tk : Takes X W) {pins : List (Addr × Obj)} {σ : L2.St} {H : Hp} {s : Shared} {Q : VK} {us : List Value} {vs : List V}
    (I : Inv X pins σ H s) (r : Vals vs us)
    (h : ∀ x dx, H x = none → H dx = none → dx ≠ x → liftSp X.K sp (.ref x :: vs) (upd (upd H dx (.own x)) x (.ins c dx [])) (fun v H2 => v = .non ∧ Q (.ref x) H2) (WE W σ)) :
    wpAny (model X.prog X.w) X.A (call (.ref c) us) (EP X pins σ Q) X.xe s := by
  have hq := h (s.heap.objs.size + 1) s.heap.objs.size (I.hok.fresh (Nat.le_succ _)) (I.hok.fresh (Nat.le_refl _)) (Nat.ne_of_lt (Nat.lt_succ_self _))
  have I2 := Inv.made (C := c) I
  have r2 : Vals (V.ref (s.heap.objs.size + 1) :: vs) (Value.ref (s.heap.objs.size + 1) :: us) := .cons rfl r
  have hl : (Value.ref (s.heap.objs.size + 1) :: us).length = ps.length := by
    rw [← r2.length]; exact F.len hq
  have bnd : ∀ s', X.K.In s'.heap → BindsTo s' fd ⟨Value.ref (s.heap.objs.size + 1) :: us, []⟩ (ps.zip (Value.ref (s.heap.objs.size + 1) :: us)) := fun s' z => by
    have := hb s' (Value.ref (s.heap.objs.size + 1) :: us) z (by rw [List.append_nil]; exact hl)
    rwa [List.append_nil] at this
  refine wpAny_call (make_map (f := fa) I.kIn M.makes M.init (beq_iff_eq.mp M.fn) (codeAny_mono (F.go _ X.stack _ _ ⟨Value.ref (s.heap.objs.size + 1) :: us, []⟩ (Value.ref (s.heap.objs.size + 1) :: us) _ _ (WE W σ) (make_guards gu) (hr.make c us [])
    (I2.env0.make c us []) (bnd _ I2.kIn) r2 hq) fun r s' hq' => ?_))
  cases r with
  | error e => exact passAt tk σ pins _ _ e s' I2 hq'
  | ok fl =>
    cases fl with
    | ret u =>
      obtain ⟨v, H', I3, rv, ev, q3⟩ := I2.after hq'
      subst ev
      exact ⟨rv, ⟨V.ref (s.heap.objs.size + 1), H', I3, rfl, q3⟩⟩
    | next => exact False.elim hq'
    | brk => exact False.elim hq'
    | cont => exact False.elim hq'
def tNewS (K : PySem.W.Frag) (c : Addr) (sp : GSp) (E : L2.St → XK) (t : TA) : TE := fun σ H Q => t σ H fun vs H1 => ∀ x dx, H1 x = none → H1 dx = none → dx ≠ x →
  liftSp K sp (.ref x :: vs) (upd (upd H1 dx (.own x)) x (.ins c dx [])) (fun v H2 => v = .non ∧ Q (.ref x) H2) (E σ)
theorem new_imp {K : PySem.W.Frag} (gk : gaK K C = some c) {σ : L2.St} {H : Hp} {Q : VK} (h : LE K (WE W) (wNew C sp tr) σ H Q) : tNewS K c sp (WE W) (LA K (WE W) tr) σ H Q := by
  obtain ⟨B, ρ, g, Q0, W0, rs, w, t, k, xc⟩ := h
  refine ⟨B, ρ, g, _, W0, rs, w, t, fun ds g1 vs H1 hq rv w1 f1 x dx nx nd ne => ?_, xc⟩
  obtain ⟨f2, w2, gd⟩ := Fr.laidV (u := .own x) nd w1
  have nx2 : upd H1 dx (.own x) x = none := by rw [upd_ne ne.symm]; exact nx
  obtain ⟨f3, w3, gx⟩ := Fr.laidV (u := .ins c dx []) nx2 w2
  have w4 : Vw K B (upd (upd H1 dx (.own x)) x (.ins c dx [])) (gup g1 x (.ins C [])) := by
    refine ⟨fun b m => w3.dom b m, RepG.track (H := hide (upd (upd H1 dx (.own x)) x (.ins c dx [])) B) (H0 := hide (upd H1 dx (.own x)) B) (by rw [hide_out (w2.new nx2)]; exact upd_same) (fun b z h => ?_) w2.rg (.ins gk .nil)⟩
    exact ⟨ne_of_none h (w2.hn nx2), by rw [hide_upd (w2.new nx2), upd_ne (ne_of_none h (w2.hn nx2))]; exact h⟩
  have f4 : Fr H g (upd (upd H1 dx (.own x)) x (.ins c dx [])) (gup g1 x (.ins C [])) := f1.trans (f2.trans (f3.track nx2))
  refine ⟨B, gup g1 x (.ins C []), _, _, W0, w4, .cons (.ref x) (rv.monoR fun v d z => z.fr ?_ ?_), hq x gx, fun d g' v H' q rd w' f fr => ?_, xc.after f4⟩
  · exact w1.rg
  · exact (f2.trans (f3.track nx2)).hd B
  · obtain ⟨rfl, q⟩ := q
    exact ⟨by cases rd; rfl, k (.v (.ref x)) g' (.ref x) H' q (.ref x) w' (f4.trans f) .no⟩
theorem q_new {x : Str} (M : Mk X.K c fa) (F : FnG X.prog X.w X.K X.mg X.base k fa fd ps sp) (gu : X.A.guards = some []) (hr : Room (k + 1) X.A) (gk : gaK X.K x = some c) (hg : Gl X x) (hm : X.mg x = some (.ref c)) (hb : Binds X.K fd ps []) (tk : Takes X W)
    (ha : PA X (e :: es) (LA X.K (WE W) tr)) (hdb : (x == ("__debug__" : Str)) = false) (he : starEach (e :: es) X.env = (false, eval e X.env) :: starEach es X.env) (hpl : (backTo pos (starEach es X.env)).any (·.1) = false) :
    PE X (.Call (.Name x p) (e :: es) [] pos) (LE X.K (WE W) (wNew x sp tr)) := by
  refine PE.of (t' := tNewS X.K c sp (WE W) (LA X.K (WE W) tr)) ?_ fun σ H Q h => new_imp gk h
  refine ⟨fun pins s σ H Q I h => ?_⟩
  refine wpAny_Call_Name_kw (ld_glob I hg hm ?_ hdb)
  refine PySem.W.callWith_K (h₀ := X.base) I.ok.mod.kin M.kp (thn (ha.run pos pins s σ H _ I h) fun us s1 ⟨vs, H1, I1, r, q⟩ => ⟨I1.kIn, ?_⟩) he hpl
  exact run_makeG M F gu hr hb tk I1 r q
theorem q_new0 {x : Str} (M : Mk X.K c fa) (F : FnG X.prog X.w X.K X.mg X.base k fa fd ps sp) (gu : X.A.guards = some []) (hr : Room (k + 1) X.A) (gk : gaK X.K x = some c) (hg : Gl X x) (hm : X.mg x = some (.ref c)) (hb : Binds X.K fd ps []) (tk : Takes X W)
    (hdb : (x == ("__debug__" : Str)) = false) : PE X (.Call (.Name x p) [] [] pos) (LE X.K (WE W) (wNew x sp wNil)) := by
  refine PE.of (t' := tNewS X.K c sp (WE W) (LA X.K (WE W) wNil)) ?_ fun σ H Q h => new_imp gk h
  refine ⟨fun pins s σ H Q I h => ?_⟩
  refine wpAny_Call_Name_kw (ld_glob I hg hm ?_ hdb)
  exact PySem.W.callWith_K0 I.kIn M.kp (run_makeG (us := []) M F gu hr hb tk I .nil (la_nil1 h))
end
end G3
/-! G3: fields as targets of a tuple -/
namespace G3
open PySem L2
section
variable {X : Cx} {W : L2.WX} {C f f' : Str} {p pos apos apos' tpos : Pos} {e o o' value : Expr} {te to to' : TD} {ta : TE} {c : Addr} {k : Nat}
/-- o.f as a target -/
def gFld (K : PySem.W.Frag) (ta : TE) (f : Str) : TG := fun y σ H Q => ta σ H fun x H1 => ∃ a C dx fs, x = .ref a ∧ H1 a = some (.ins C dx fs) ∧ Cls K C ∧ NoAttr K C f ∧ fs.length < 1000 ∧ Q σ (upd H1 a (.ins C dx (putF f y fs)))
theorem pg_fld (ha : PE X o ta) : PG X (.Attribute o f pos) (gFld X.K ta f) := by
  refine ⟨fun pins s σ H v u Q I r h => ?_⟩
  rw [assign_Attribute]
  refine wpAny_bind (wpAny_holding (thn (ha.run pins s σ H _ I h) fun ov s1 ⟨x, H1, I1, rx, a, C, dx, fs, ex, ea, cl, na, l, q⟩ => ?_))
  subst ex
  obtain rfl : ov = Value.ref a := rx
  refine wpAny_bind (wpAny_standAt (wpAny_bind (wpAny_holding ?_)))
  exact setattr_ok I1 ea cl na l r fun s3 I3 => wpAny_release ⟨σ, _, I3, q⟩
/-- o.f, o'.f' = e, both of the class C -/
def wSfld2 (C f f' : Str) (to to' te : TD) : TSD := fun D ρ g => te ρ g (fun r g1 => match r with
  | .v (.tup [x, y]) => to ρ g1 (fun q g2 => match q with
    | .v (.ref p) => ∃ fs, g2 p = some (.ins C fs) ∧ fs.length < 1000 ∧ to' ρ (gup g2 p (.ins C (putFD f x fs))) (fun q' g3 => match q' with
      | .v (.ref p') => ∃ fs', g3 p' = some (.ins C fs') ∧ fs'.length < 1000 ∧ D.nx ρ (gup g3 p' (.ins C (putFD f' y fs')))
      | _ => False) (fun x g3 => D.ex x ρ g3)
    | _ => False) (fun x g3 => D.ex x ρ g3)
  | _ => False) (fun x g3 => D.ex x ρ g3)
theorem s_fld2 (gk : gaK X.K C = some c) (cl : Cls X.K c) (na : NoAttr X.K c f) (na' : NoAttr X.K c f') (ho : PE X o (LE X.K (WE W) to)) (ho' : PE X o' (LE X.K (WE W) to')) (hv : PE X value (LE X.K (WE W) te)) (hc : X.calm = true)
    (hs : swapsWithSole [.Tuple [.Attribute o f apos, .Attribute o' f' apos'] k tpos] value pos.line X.env = pure false) (hw : swappedStores [.Tuple [.Attribute o f apos, .Attribute o' f' apos'] k tpos] value X.env = pure none) :
    PS X (.Assign [.Tuple [.Attribute o f apos, .Attribute o' f' apos'] k tpos] value pos) (LS X.K W (wSfld2 C f f' to to' te)) := by
  refine PS.of (ps_asg hv (pg_tup (n := 2) hc (pgs_cons (pg_fld ho) (pgs_cons (pg_fld ho') pgs_nil))) hs hw) fun D σ H ⟨B, ρ, g, D0, rs, w, q, k⟩ => ?_
  refine ⟨B, ρ, g, _, _, rs, w, q, fun r g1 v H1 hq rv w1 f1 _ => ?_, k.xc rs w⟩
  match r, rv, hq with
  | .v (.tup [x, y]), rv, hq =>
    cases rv with
    | tup ht rr =>
      cases rr with
      | cons r1 rr =>
        cases rr with
        | cons r2 rr =>
          cases rr
          refine ⟨_, _, rfl, .inl (.inl (of_hide ht).1), rfl, _, _, rfl, ?_⟩
          refine ⟨B, ρ, g1, _, _, rs.fv w f1, w1, hq, fun qx g2 ov H2 hq rx w2 f2 _ => ?_, (k.after f1).xc (rs.fv w f1) w1⟩
          match qx, rx, hq with
          | .v (.ref a), rx, ⟨fs, hg, hl, hq⟩ =>
            cases rx
            obtain ⟨c', dx, vs, hcc, hH, hf⟩ := trk_ins w2 hg
            rw [gk] at hcc; cases hcc
            have f12 := f1.trans f2
            obtain ⟨f3, w3⟩ := Fr.writeV (u' := .ins c dx (putF f _ vs)) (o' := .ins C (putFD f x fs)) hH hg (fun _ e => by cases e) (fun _ _ e => by cases e) w2 (.ins gk (hf.put (r1.fv w1 f2)))
            refine ⟨a, c, dx, vs, rfl, hH, cl, na, by rw [hf.length]; exact hl, _, _, rfl, ?_⟩
            have f123 := f12.trans f3
            refine ⟨B, ρ, _, _, _, rs.fv w f123, w3, hq, fun qy g4 ov4 H4 hq4 ry w4 f4 _ => ?_, (k.after f123).xc (rs.fv w f123) w3⟩
            match qy, ry, hq4 with
            | .v (.ref a'), ry, ⟨fs', hg', hl', hq'⟩ =>
              cases ry
              obtain ⟨c2, dx', vs', hc2, hH', hf'⟩ := trk_ins w4 hg'
              rw [gk] at hc2; cases hc2
              have f234 := (f2.trans f3).trans f4
              obtain ⟨f5, w5⟩ := Fr.writeV (u' := .ins c dx' (putF f' _ vs')) (o' := .ins C (putFD f' y fs')) hH' hg' (fun _ e => by cases e) (fun _ _ e => by cases e) w4 (.ins gk (hf'.put (r2.fv w1 f234)))
              have fa := (f123.trans f4).trans f5
              exact ⟨a', c, dx', vs', rfl, hH', cl, na', by rw [hf'.length]; exact hl', rfl, k.nx ρ _ σ _ hq' (rs.fv w fa) w5 fa⟩
end
end G3
/-! G3s: sorted(set(x)), len(set(x)) of whole numbers -/
namespace G3
open PySem PySem.Spec PyProof.Rows L2
/-- the new set, still empty -/
abbrev eSet (w : World) : Obj := { cls := .type "set", dict := none, data := .set #[] 0 (.fresh 0 0 (!w.params.followText "set-order")) }
section
variable {P : Program} {w : World} {A : Around} {E : Value → Shared → Prop} {s : Shared}
/-- set(xs) of a list of whole numbers: its members -/
theorem set_of_list {l : Addr} {us : Array Value} (ns : List Int) {Q : Value → Shared → Prop} (quiet : A.handled = none) (at_l : s.heap.IsList l us) (nums : IntsAre us.toList ns) (small : ns.length + 1 < scanBound)
    (post : ∀ (hp : Heap) (tk c : Nat), SetR w hp s.heap.objs.size (fun j => decide (j ∈ ns)) c → c ≤ ns.length → (∀ b o, s.heap.get? b = some o → hp.get? b = some o) → Q (.ref s.heap.objs.size) { s with heap := hp, toks := tk }) : wpAny (model P w) A (call (.type "set") [.ref l]) Q E s := by
  have sz : us.size = ns.length := by simpa only [Array.length_toList] using IntsAre.length nums
  obtain ⟨_, _, mro⟩ := F.called_set.mro
  have made := F.called_set.made
  have subs := F.called_set.sub
  refine wpAny_call (codeAny_of_tree ?_)
  show wpAny _ _ (callAny (.type "set") _) _ _ _
  refine wpAny_pure ⟨Code.quiet_builtin _ (by decide +kernel), codeAny_builtin F.entry_type_call ?_⟩
  rw [Around.under_plain (weight_type_call_type "set" [.ref l] []) rfl]
  have f1 := F.called_set.notType
  have f2 := F.called_set.canCreate
  have f3 := F.typeCall_set_1 (.ref l)
  repeat (any_goals (first | assumption | wp_step))
  refine codeAny_mono (code_set_led1 (.ref l) (E := E) (Q₁ := fun x s1 => x = .ref s.heap.objs.size ∧ s1 = { s with heap := s.heap.push (eSet w) }) ⟨rfl, rfl⟩) fun r s1 got => ?_
  match r, got with
  | .error e, got => exact got
  | .ok (.ret x), got =>
    obtain ⟨rfl, rfl⟩ := got
    have fresh : (s.heap.push (eSet w)).get? s.heap.objs.size = some (eSet w) := Heap.get?_push_size _ rfl
    have kind : Shared.TypeIs { s with heap := s.heap.push (eSet w) } (.ref s.heap.objs.size) "set" := ⟨_, fresh, rfl⟩
    have g1 := F.called_set.init.lookup
    have g2 := F.called_set.init.bind (.ref s.heap.objs.size)
    repeat (any_goals (first | assumption | wp_step))
    refine codeAny_mono (codeAny_call_builtin (R := wants (fun r s2 => r = .none ∧ ∃ hp tk c, s2 = { s with heap := hp, toks := tk } ∧ SetR w hp s.heap.objs.size (fun j => decide (j ∈ ns)) c ∧ c ≤ ns.length ∧ (∀ b o, s.heap.get? b = some o → hp.get? b = some o)) E)
      F.called_set.init.plain F.entry_set_init (check_set_init_1 kind ?_)) fun r2 s2 got2 => ?_
    · obtain ⟨lo, at_lo, lcls, ln, ldat⟩ := at_l
      obtain ⟨c0, d0, x0, y0⟩ := lo
      simp only at lcls ldat
      subst lcls; subst ldat
      have seen : (s.heap.push (eSet w)).get? l = some { cls := .type "list", dict := d0, data := .seq us ln, slots := y0 } := Heap.get?_push_of_some _ at_lo
      have n1 := F.sub_list_set
      have n2 := F.sub_list_frozenset
      have n3 : (Value.type "list" == Value.type "dict") = false := by decide
      have still : (s.heap.push (eSet w)).IsList l us := ⟨_, seen, rfl, ln, rfl⟩
      unfold Builtin.«set.__init__» noKeywords Builtin.Frozenset.updateFrom
      generalize keep : pyIter = PI
      wp_walk
      subst keep
      refine wpAny_pyIter_list still (wpAny_bind (wpAny_runValue ?_))
      have older : l < s.heap.objs.size := Heap.lt_size at_lo
      have quiet3 : A.in1.in1.in1.handled = none := by simp [quiet]
      have ne1 : l ≠ (s.heap.push (eSet w)).objs.size := by
        rw [Heap.size_push]; exact Nat.ne_of_lt (Nat.lt_succ_of_lt older)
      have out1 : s.heap.objs.size ∉ [(s.heap.push (eSet w)).objs.size, l] := by
        rw [Heap.size_push]; simp only [List.mem_cons, List.not_mem_nil, or_false, not_or]; exact ⟨Nat.ne_of_lt (Nat.lt_succ_self _), Nat.ne_of_gt older⟩
      have each : ∀ (i : Nat) (v : Value), us[i]? = some v → ∃ k t, ns[i]? = some k ∧ v = .int k t := fun i v hv => by
        have lt : i < ns.length := by rw [← sz]; exact (Array.getElem?_eq_some_iff.mp hv).1
        obtain ⟨t, e⟩ := IntsAre.int_at nums i v (by rw [Array.getElem?_toList]; exact hv)
        exact ⟨ns[i], t, List.getElem?_eq_getElem lt, by rw [e, List.getD_eq_getElem?_getD, List.getElem?_eq_getElem lt]; rfl⟩
      refine set_update_ints ((Walks.list quiet3 _ l ne1 us).toS) s.heap.objs.size out1 ns sz small each (us.size - 0) 0 _ (by omega) (Nat.zero_le _) ⟨⟨_, Heap.get?_push_size _ rfl, rfl, rfl⟩, still.push _⟩ ?first ?last
      case first => exact ⟨0, Nat.le_refl 0, setR_new_at (show ((s.heap.push (eSet w)).push _).get? s.heap.objs.size = some (eSet w) from Heap.get?_push_of_some _ fresh)⟩
      case last =>
        intro s3 c mv le full
        obtain ⟨hp, gs, dr, tk, os⟩ := s3
        obtain rfl : gs = s.gens := mv.gens
        obtain rfl : dr = s.drawn := mv.drawn
        obtain rfl : os = s.os := mv.os
        show wpAny _ _ _ _ _ _
        refine wpAny_pure ?_
        show wpAny _ _ (ret Value.none) _ _ _
        rw [sz] at le
        refine wpAny_pure ⟨rfl, hp, tk, c, rfl, full, le, fun b o e => ?_⟩
        have lt := Heap.lt_size e
        exact mv.heap b o (by rw [Heap.size_push]; simp only [List.mem_cons, List.not_mem_nil, or_false, not_or]; exact ⟨Nat.ne_of_lt lt, Nat.ne_of_lt (Nat.lt_succ_of_lt lt)⟩) (Heap.get?_push_of_some _ (Heap.get?_push_of_some _ e))
    · match r2, got2 with
      | .error e, got2 => exact got2
      | .ok (.ret x), got2 =>
        obtain ⟨rfl, hp, tk, c, rfl, full, le, old⟩ := got2
        repeat (any_goals (first | assumption | wp_step))
        exact post _ _ _ full le old
      | .ok .next, got2 | .ok .brk, got2 | .ok .cont, got2 => exact got2.elim
  | .ok .next, got | .ok .brk, got | .ok .cont, got => exact got.elim
end
end G3
/-! G3: tuples from behind, list(range(..)) -/
namespace G3
open PySem PySem.Spec PyProof.Rows L2 HT
section
variable {prog : Program} {w : World} {A : Around} {E : Value → Shared → Prop} {s : Shared}
theorem slice_down {sl : Addr} {vl vu vs : Value} {lo hi : Option Int} {n : Nat} {Q : Int × Int × Nat → Shared → Prop} (hs : s.heap.IsSliceOf sl vl vu vs) (pl : IsPart vl lo) (pu : IsPart vu hi) (ps : IsPart vs (some (-1)))
    (h : Q ((Builtin.Slice.sliceAdjust lo hi (-1) n).1, -1, Builtin.Slice.slicePlaces (Builtin.Slice.sliceAdjust lo hi (-1) n).1 (Builtin.Slice.sliceAdjust lo hi (-1) n).2 (-1)) s) : wpAny (model prog w) A (Builtin.Slice.sliceApplied (.ref sl) (pure (n : Int))) Q E s := by
  obtain ⟨os, hos, hcs, hds⟩ := id hs
  unfold Builtin.Slice.sliceApplied Builtin.Slice.sliceFields
  refine wpAny_bind (wpAny_bind (wpAny_field hos hds (x := vl) rfl (wpAny_bind (wpAny_field hos hds (x := vu) rfl (wpAny_bind (wpAny_field hos hds (x := vs) rfl (wpAny_pure ?_)))))))
  refine wpAny_bind (slicePart_ ps ?_)
  show wpAny _ _ (if ((-1 : Int) == 0) = true then _ else _) _ _ s
  rw [if_neg (by decide)]
  exact wpAny_bind (slicePart_ pl (wpAny_bind (slicePart_ pu (wpAny_bind (wpAny_pure (wpAny_pure h))))))
theorem getItem_tuple_down {t sl : Addr} {items : Array Value} {vl vu vs : Value} {lo hi : Option Int} {ys : List Value} {Q : Value → Shared → Prop} (ht : IsTup s.heap t items) (hs : s.heap.IsSliceOf sl vl vu vs) (pl : IsPart vl lo) (pu : IsPart vu hi) (ps : IsPart vs (some (-1)))
    (hy : ((List.range (Builtin.Slice.slicePlaces (Builtin.Slice.sliceAdjust lo hi (-1) (items.size : Nat)).1 (Builtin.Slice.sliceAdjust lo hi (-1) (items.size : Nat)).2 (-1))).filterMap fun (k : Nat) => items[((Builtin.Slice.sliceAdjust lo hi (-1) (items.size : Nat)).1 + (k : Int) * (-1)).toNat]?) = ys)
    (hz : ys.length ≤ sizeLine) (h : Q (.ref s.heap.objs.size) { s with heap := s.heap.push { cls := .type "tuple", data := .seq ys.toArray } }) : wpAny (model prog w) A (getItem (.ref t) (.ref sl)) Q E s := by
  have htake : sizeOk (.seq ys.toArray) := by
    show ys.toArray.size ≤ sizeLine
    rw [List.size_toArray]; exact hz
  obtain ⟨os, hos, hcs, hds⟩ := id hs
  have hTs : s.TypeIs (.ref sl) "slice" := ⟨os, hos, hcs⟩
  unfold getItem
  try with_reducible refine wpAny_holding ?_
  first | refine wpAny_bind (wpAny_pure ?_) | skip
  refine wpAny_bind (wpAny_sequenceKey ht.typeIs (by decide) ?_)
  refine wpAny_bind (wpAny_callSpecial?_slot (name := Str.ofString "__getitem__") ht.typeIs PyProof.Rows.slot_tuple_getitem
    (wpAny_call_entry PyProof.Rows.slot_tuple_getitem ht.typeIs entry_tuple_getitem ?_ (args_tuple_getitem _ _)))
  show wpAny _ _ (Builtin.Tuple.tupleItemsOf (.ref t) >>= _) _ _ s
  refine wpAny_bind (tupleItemsOf_ ht ?_)
  refine wpAny_bind (wpAny_typeOf hTs ?_)
  rw [if_pos (by decide)]
  refine wpAny_bind (slice_down hs pl pu ps ?_)
  have hno : ∀ (a : Int) (n m : Nat), ¬ ((a == 0 && (-1 : Int) == 1 && n == m) = true) := by
    intro a n m q
    rw [Bool.and_eq_true, Bool.and_eq_true] at q
    exact absurd q.1.2 (by decide)
  show wpAny _ _ (if ((Builtin.Slice.sliceAdjust lo hi (-1) (items.size : Nat)).1 == 0 && (-1 : Int) == 1 && Builtin.Slice.slicePlaces (Builtin.Slice.sliceAdjust lo hi (-1) (items.size : Nat)).1 (Builtin.Slice.sliceAdjust lo hi (-1) (items.size : Nat)).2 (-1) == items.size) = true then _ else _) _ _ s
  rw [if_neg (hno _ _ _), hy]
  first
    | exact wpAny_bind (m := Builtin.Tuple.tupleExact _) (wpAny_newObj_type (wpAny_pure ⟨_, rfl, wpAny_pure h⟩) htake)
    | exact wpAny_bind (m := Builtin.Tuple.tupleExact _) (wpAny_newObj_type (wpAny_bind (wpAny_pure (wpAny_pure ⟨_, rfl, wpAny_pure h⟩))) htake)
    | exact wpAny_bind (wpAny_bind (m := Builtin.Tuple.tupleExact _) (wpAny_newObj_type (wpAny_pure (wpAny_pure ⟨_, rfl, wpAny_pure h⟩)) htake))
    | exact wpAny_bind (wpAny_bind (m := Builtin.Tuple.tupleExact _) (wpAny_newObj_type (wpAny_pure ⟨_, rfl, wpAny_pure h⟩) htake))
end
theorem fm_congr {α β : Type} {f g : α → Option β} : ∀ {l : List α}, (∀ x ∈ l, f x = g x) → l.filterMap f = l.filterMap g
  | [], _ => rfl
  | x :: l, h => by
    rw [List.filterMap_cons, List.filterMap_cons, h x List.mem_cons_self, fm_congr fun y hy => h y (List.mem_cons_of_mem _ hy)]
theorem down_all (its : List Value) : ((List.range (Builtin.Slice.slicePlaces (Builtin.Slice.sliceAdjust none none (-1) (its.toArray.size : Nat)).1 (Builtin.Slice.sliceAdjust none none (-1) (its.toArray.size : Nat)).2 (-1))).filterMap fun (k : Nat) => its.toArray[((Builtin.Slice.sliceAdjust none none (-1) (its.toArray.size : Nat)).1 + (k : Int) * (-1)).toNat]?) = its.reverse := by
  have e1 : (Builtin.Slice.sliceAdjust none none (-1) (its.toArray.size : Nat)) = ((its.length : Int) - 1, -1) := by
    unfold Builtin.Slice.sliceAdjust; simp
  rw [e1]
  have e2 : Builtin.Slice.slicePlaces ((its.length : Int) - 1) (-1) (-1) = its.length := by
    unfold Builtin.Slice.slicePlaces
    rw [if_neg (by decide)]
    split
    · have : ((its.length : Int) - 1 - -1 - 1) / (- -1) = (its.length : Int) - 1 := by
        rw [show (- -1 : Int) = 1 by decide, Int.ediv_one]; omega
      rw [this]; omega
    · omega
  show (List.range (Builtin.Slice.slicePlaces ((its.length : Int) - 1) (-1) (-1))).filterMap _ = _
  rw [e2]
  have e3 : (List.range its.length).filterMap (fun (k : Nat) => its.toArray[(((its.length : Int) - 1, (-1 : Int)).1 + (k : Int) * (-1)).toNat]?) = (List.range its.length).filterMap (fun k => its.reverse[k]?) := by
    refine fm_congr fun k hk => ?_
    have hk := List.mem_range.mp hk
    rw [List.getElem?_reverse (by omega), List.getElem?_toArray]
    congr 1
    show ((its.length : Int) - 1 + (k : Int) * (-1)).toNat = _
    omega
  rw [e3]
  have := PySem.W.krv_all its.reverse.toArray
  simpa using this
theorem down_20 (a b c d : Value) : ((List.range (Builtin.Slice.slicePlaces (Builtin.Slice.sliceAdjust (some 2) (some 0) (-1) ([a, b, c, d].toArray.size : Nat)).1 (Builtin.Slice.sliceAdjust (some 2) (some 0) (-1) ([a, b, c, d].toArray.size : Nat)).2 (-1))).filterMap fun (k : Nat) => [a, b, c, d].toArray[((Builtin.Slice.sliceAdjust (some 2) (some 0) (-1) ([a, b, c, d].toArray.size : Nat)).1 + (k : Int) * (-1)).toNat]?) = [c, b] := rfl
def rRevT (K : PySem.W.Frag) : V → Hp → VK → Prop := fun x H Q => ∃ a xs, x = .ref a ∧ SqT K H a xs ∧ ∀ p, H p = none → Q (.ref p) (upd H p (.tup xs.reverse))
def rRow2 (K : PySem.W.Frag) : V → Hp → VK → Prop := fun x H Q => ∃ a v0 v1 v2 v3, x = .ref a ∧ SqT K H a [v0, v1, v2, v3] ∧ ∀ p, H p = none → Q (.ref p) (upd H p (.tup [v2, v1]))
section
variable {X : Cx}
theorem pe_revT {e : Expr} {te : TE} {k : Nat} {p1 p2 p3 pos : Pos} (he : PE X e te) : PE X (.Subscript e (.Slice none none (some (.UnaryOp .USub (.Constant (.int 1) k p1) p2)) p3) pos) (tUn (rRevT X.K) te) := by
  refine ⟨fun pins s σ H Q I h => ?_⟩
  refine Subscript_ (thn (he.run pins s σ H _ I h) fun v s1 ⟨x, H1, I1, r1, q1⟩ => ?_)
  obtain ⟨a, xs, ex, hx, q⟩ := q1
  subst ex
  cases r1
  have hst : PO X (some (.UnaryOp .USub (.Constant (.int 1) k p1) p2)) (tPart (tUn (rU fun i => .int (-i)) (tC (.int 1)))) := po_some (pe_un un_neg pe_int)
  refine wpAny_Slice (thn (po_none.run pins s1 σ H1 (fun o H2 => o = none ∧ H2 = H1) I1 ⟨rfl, rfl⟩) fun vl s2 ⟨l, H2, I2, pl, el, e2⟩ => ?_)
  subst el e2
  refine thn (po_none.run pins s2 σ H2 (fun o H3 => o = none ∧ H3 = H2) I2 ⟨rfl, rfl⟩) fun vu s3 ⟨u, H3, I3, pu, eu, e3⟩ => ?_
  subst eu e3
  refine thn (hst.run pins s3 σ H3 (fun o H4 => o = some (-1) ∧ H4 = H3) I3 ⟨1, rfl, -1, rfl, rfl, rfl⟩) fun vs s4 ⟨o, H4, I4, ps, eo, e4⟩ => ?_
  subst eo e4
  have I5 : Inv X pins σ H4 { s4 with heap := s4.heap.push { cls := .type "slice", data := .fields #[vl, vu, vs] } } := I4.kept (t' := s4.toks) fun b ob q => Heap.get?_push_of_some _ q
  obtain ⟨its, r, ht, hz⟩ := I5.tuple hx
  have hlen := r.length
  show wpAny (model X.prog X.w) X.A (subscriptTail e (.Slice none none (some (.UnaryOp .USub (.Constant (.int 1) k p1) p2)) p3) (.ref a) (.ref s4.heap.objs.size)) (EP X pins σ Q) X.xe { s4 with heap := s4.heap.push { cls := .type "slice", data := .fields #[vl, vu, vs] } }
  refine tail_any (ops := [.ref a, .ref s4.heap.objs.size]) ht.typeIs (PyProof.Rows.slot_tuple_getitem.lookup) ?_ (by with_unfolding_all rfl)
  refine getItem_tuple_down ht (Heap.IsSliceOf.new _ vl vu vs) pl pu ps (down_all its) (by rw [List.length_reverse]; omega) ?_
  refine ⟨.ref _, _, I5.laid (t' := s4.toks) (o := .tup xs.reverse) (fun b ob q => Heap.get?_push_of_some _ q) (Nat.le_refl _) ?_, rfl, q _ (I5.hok.fresh (Nat.le_refl _))⟩
  exact ⟨by rw [List.length_reverse]; exact hz, _, r.reverse, IsTup.new _ _⟩
theorem pe_row2 {e : Expr} {te : TE} {k k1 k2 : Nat} {p1 p2 p3 p4 p5 pos : Pos} (he : PE X e te) : PE X (.Subscript e (.Slice (some (.Constant (.int 2) k1 p4)) (some (.Constant (.int 0) k2 p5)) (some (.UnaryOp .USub (.Constant (.int 1) k p1) p2)) p3) pos) (tUn (rRow2 X.K) te) := by
  refine ⟨fun pins s σ H Q I h => ?_⟩
  refine Subscript_ (thn (he.run pins s σ H _ I h) fun v s1 ⟨x, H1, I1, r1, q1⟩ => ?_)
  obtain ⟨a, v0, v1, v2, v3, ex, hx, q⟩ := q1
  subst ex
  cases r1
  have hst : PO X (some (.UnaryOp .USub (.Constant (.int 1) k p1) p2)) (tPart (tUn (rU fun i => .int (-i)) (tC (.int 1)))) := po_some (pe_un un_neg pe_int)
  have hlo : PO X (some (.Constant (.int 2) k1 p4)) (tPart (tC (.int 2))) := po_some pe_int
  have hhi : PO X (some (.Constant (.int 0) k2 p5)) (tPart (tC (.int 0))) := po_some pe_int
  refine wpAny_Slice (thn (hlo.run pins s1 σ H1 (fun o H2 => o = some 2 ∧ H2 = H1) I1 ⟨2, rfl, rfl, rfl⟩) fun vl s2 ⟨l, H2, I2, pl, el, e2⟩ => ?_)
  subst el e2
  refine thn (hhi.run pins s2 σ H2 (fun o H3 => o = some 0 ∧ H3 = H2) I2 ⟨0, rfl, rfl, rfl⟩) fun vu s3 ⟨u, H3, I3, pu, eu, e3⟩ => ?_
  subst eu e3
  refine thn (hst.run pins s3 σ H3 (fun o H4 => o = some (-1) ∧ H4 = H3) I3 ⟨1, rfl, -1, rfl, rfl, rfl⟩) fun vs s4 ⟨o, H4, I4, ps, eo, e4⟩ => ?_
  subst eo e4
  have I5 : Inv X pins σ H4 { s4 with heap := s4.heap.push { cls := .type "slice", data := .fields #[vl, vu, vs] } } := I4.kept (t' := s4.toks) fun b ob q => Heap.get?_push_of_some _ q
  obtain ⟨its, r, ht, hz⟩ := I5.tuple hx
  obtain ⟨w0, w1, w2, w3, rfl, r1, r2⟩ : ∃ w0 w1 w2 w3, its = [w0, w1, w2, w3] ∧ RelV v1 w1 ∧ RelV v2 w2 := by
    cases r with
    | cons a0 r => cases r with
      | cons a1 r => cases r with
        | cons a2 r => cases r with
          | cons a3 r => cases r with
            | nil => exact ⟨_, _, _, _, rfl, a1, a2⟩
  show wpAny (model X.prog X.w) X.A (subscriptTail e (.Slice (some (.Constant (.int 2) k1 p4)) (some (.Constant (.int 0) k2 p5)) (some (.UnaryOp .USub (.Constant (.int 1) k p1) p2)) p3) (.ref a) (.ref s4.heap.objs.size)) (EP X pins σ Q) X.xe { s4 with heap := s4.heap.push { cls := .type "slice", data := .fields #[vl, vu, vs] } }
  refine tail_any (ops := [.ref a, .ref s4.heap.objs.size]) ht.typeIs (PyProof.Rows.slot_tuple_getitem.lookup) ?_ (by with_unfolding_all rfl)
  refine getItem_tuple_down ht (Heap.IsSliceOf.new _ vl vu vs) pl pu ps (down_20 w0 w1 w2 w3) (by simp [sizeLine]) ?_
  refine ⟨.ref _, _, I5.laid (t' := s4.toks) (o := .tup [v2, v1]) (fun b ob q => Heap.get?_push_of_some _ q) (Nat.le_refl _) ?_, rfl, q _ (I5.hok.fresh (Nat.le_refl _))⟩
  exact ⟨by simp [sizeLine], _, .cons r2 (.cons r1 .nil), IsTup.new _ _⟩
end
/-! ### list(range(..)) -/
section
variable {X : Cx}
/-- what a range is made of, by its arguments -/
def tRgA (ta : TA) : L2.St → Hp → (Int → Int → Hp → Prop) → Prop := fun σ H Q => ta σ H fun vs H1 => (∃ n, vs = [.int n] ∧ Q 0 n H1) ∨ ∃ i j, vs = [.int i, .int j] ∧ Q i j H1
theorem prg_1A {a : Expr} {ta : TA} {p pos : Pos} (hg : Gl X "range") (hm : X.mg "range" = none) (ha : PA X [a] ta) (hs : starEach [a] X.env = [(false, eval a X.env)] := by rfl) : PRg X (.Call (.Name "range" p) [a] [] pos) (tRgA ta) := by
  intro pins s σ H Q I h
  refine Call_ (ld_blt I hg hm boot_range (PyProof.Rows.callWith_type1 (thn (ha.run pos pins s σ H _ I h) fun us s1 ⟨vs, H1, I1, r1, q1⟩ => ?_) hs rfl))
  rcases q1 with ⟨n, rfl, q⟩ | ⟨i, j, rfl, q⟩
  · cases r1 with
    | cons r rr =>
      cases rr
      obtain ⟨t, rfl⟩ := r
      exact call_range_1 ⟨_, 0, n, _, _, _, H1, rfl, IsRange.new _ _ _ _ _ _ _, I1.kept fun b u e => Heap.get?_push_of_some _ e, q⟩
  · cases r1 with
    | cons r rr =>
      cases rr with
      | cons r' rr =>
        cases rr
        obtain ⟨t, rfl⟩ := r
        obtain ⟨t', rfl⟩ := r'
        exact call_range_2 ⟨_, i, j, _, _, _, H1, rfl, IsRange.new _ _ _ _ _ _ _, I1.kept fun b u e => Heap.get?_push_of_some _ e, q⟩
theorem prg_2A {a b : Expr} {ta : TA} {p pos : Pos} (hg : Gl X "range") (hm : X.mg "range" = none) (ha : PA X [a, b] ta) (hs : starEach [a, b] X.env = [(false, eval a X.env), (false, eval b X.env)] := by rfl) (hs2 : starEach [b] X.env = [(false, eval b X.env)] := by rfl) :
    PRg X (.Call (.Name "range" p) [a, b] [] pos) (tRgA ta) := by
  intro pins s σ H Q I h
  refine Call_ (ld_blt I hg hm boot_range (PyProof.Rows.callWith_type1 (thn (ha.run pos pins s σ H _ I h) fun us s1 ⟨vs, H1, I1, r1, q1⟩ => ?_) (by rw [hs, hs2]) (by rw [hs2]; rfl)))
  rcases q1 with ⟨n, rfl, q⟩ | ⟨i, j, rfl, q⟩
  · cases r1 with
    | cons r rr =>
      cases rr
      obtain ⟨t, rfl⟩ := r
      exact call_range_1 ⟨_, 0, n, _, _, _, H1, rfl, IsRange.new _ _ _ _ _ _ _, I1.kept fun b u e => Heap.get?_push_of_some _ e, q⟩
  · cases r1 with
    | cons r rr =>
      cases rr with
      | cons r' rr =>
        cases rr
        obtain ⟨t, rfl⟩ := r
        obtain ⟨t', rfl⟩ := r'
        exact call_range_2 ⟨_, i, j, _, _, _, H1, rfl, IsRange.new _ _ _ _ _ _ _, I1.kept fun b u e => Heap.get?_push_of_some _ e, q⟩
/-- over data: the ints from i up to j -/
def fLRng : List D → GH → QK → Prop := fun ds g Q => match ds with
  | [.int j] => RgOk 0 j ∧ Q (.tl (rngD 0 j.toNat)) g
  | [.int i, .int j] => RgOk i j ∧ Q (.tl (rngD i (j - i).toNat)) g
  | _ => False
theorem reps_rng {K : PySem.W.Frag} {H : Hp} {g : GH} (i : Int) (n : Nat) : Reps K H g ((List.range n).map fun m => V.int (i + (m : Nat))) (rngD i n) := by
  unfold rngD
  generalize List.range n = l
  induction l with
  | nil => exact .nil
  | cons m l ih => exact .cons (.int _) ih
theorem q_lrng {e : Expr} {tr : TAD} {E : L2.St → XK} (h : PE X e (tLstRg (tRgA (LA X.K E tr)))) : PE X e (LE X.K E (wArgs tr fLRng)) := by
  refine PE.of h fun σ H Q ⟨B, ρ, g, Q0, W0, rs, rg, t, c, xc⟩ => ?_
  refine ⟨B, ρ, g, _, W0, rs, rg, t, fun ds g1 vs H1 hq rd rg1 f1 => ?_, xc⟩
  unfold fLRng at hq
  dsimp only at hq
  split at hq
  · cases rd with
    | cons r1 r2 =>
      cases r2
      exact .inl ⟨_, by rw [int_of r1], hq.1, fun p hp => by
        have := (c.after f1).newL hq.2 (reps_rng 0 _) rg1 p hp
        simpa [rgV] using this⟩
  · cases rd with
    | cons r1 r2 =>
      cases r2 with
      | cons r2 r3 =>
        cases r3
        exact .inr ⟨_, _, by rw [int_of r1, int_of r2], hq.1, fun p hp => (c.after f1).newL hq.2 (reps_rng _ _) rg1 p hp⟩
  · exact hq.elim
/-- tuple(range(..)) -/
def fTRng : List D → GH → QK → Prop := fun ds g Q => match ds with
  | [.int j] => RgOk 0 j ∧ Q (.v (.tup (rngD 0 j.toNat))) g
  | [.int i, .int j] => RgOk i j ∧ Q (.v (.tup (rngD i (j - i).toNat))) g
  | _ => False
theorem q_trng {e : Expr} {tr : TAD} {E : L2.St → XK} (h : PE X e (tTupRg (tRgA (LA X.K E tr)))) : PE X e (LE X.K E (wArgs tr fTRng)) := by
  refine PE.of h fun σ H Q ⟨B, ρ, g, Q0, W0, rs, rg, t, c, xc⟩ => ?_
  refine ⟨B, ρ, g, _, W0, rs, rg, t, fun ds g1 vs H1 hq rd rg1 f1 => ?_, xc⟩
  unfold fTRng at hq
  dsimp only at hq
  split at hq
  · cases rd with
    | cons r1 r2 =>
      cases r2
      exact .inl ⟨_, by rw [int_of r1], hq.1, fun p hp => by
        have := (c.after f1).newT hq.2 (reps_rng 0 _) rg1 p hp
        simpa [rgV] using this⟩
  · cases rd with
    | cons r1 r2 =>
      cases r2 with
      | cons r2 r3 =>
        cases r3
        exact .inr ⟨_, _, by rw [int_of r1, int_of r2], hq.1, fun p hp => (c.after f1).newT hq.2 (reps_rng _ _) rg1 p hp⟩
  · exact hq.elim
end
end G3
namespace G3
open PySem PySem.Spec PyProof.Rows L2
/-! ### the readings -/
def dist : List Int → List Int
  | [] => []
  | x :: xs => if xs.contains x then dist xs else x :: dist xs
def usort (ns : List Int) : List Int := isort (dist ns)
theorem dist_mem : ∀ {ns : List Int} {k : Int}, k ∈ dist ns ↔ k ∈ ns
  | [], _ => Iff.rfl
  | x :: xs, k => by
    unfold dist
    split
    · rename_i h
      rw [dist_mem, List.mem_cons]
      have h2 : x ∈ xs := List.contains_iff_mem.mp h
      exact ⟨.inr, fun e => e.elim (fun e => e ▸ h2) id⟩
    · rw [List.mem_cons, List.mem_cons, dist_mem]
theorem dist_nodup : ∀ (ns : List Int), (dist ns).Nodup
  | [] => List.nodup_nil
  | x :: xs => by
    unfold dist
    split
    · exact dist_nodup xs
    · rename_i h
      exact List.nodup_cons.mpr ⟨fun m => h (List.contains_iff_mem.mpr (dist_mem.mp m)), dist_nodup xs⟩
theorem dist_len : ∀ ns : List Int, (dist ns).length ≤ ns.length
  | [] => Nat.le_refl _
  | x :: xs => by
    have := dist_len xs
    unfold dist
    split
    · simp only [List.length_cons]; omega
    · simp only [List.length_cons]; omega
theorem usort_len (ns : List Int) : (isort (dist ns)).length ≤ ns.length := by rw [(isort_perm _).length_eq]; exact dist_len ns
theorem usort_mem {ns : List Int} {k : Int} : k ∈ usort ns ↔ k ∈ ns := (isort_perm _).mem_iff.trans dist_mem
theorem usort_lt (ns : List Int) : (usort ns).Pairwise (· < ·) := lt_of_le_nodup _ (isort_sorted _) ((isort_perm _).nodup_iff.mpr (dist_nodup ns))
theorem lt_uniq : ∀ {xs ys : List Int}, xs.Pairwise (· < ·) → ys.Pairwise (· < ·) → (∀ k, k ∈ xs ↔ k ∈ ys) → xs = ys
  | [], [], _, _, _ => rfl
  | [], y :: ys, _, _, h => absurd ((h y).mpr List.mem_cons_self) (by simp)
  | x :: xs, [], _, _, h => absurd ((h x).mp List.mem_cons_self) (by simp)
  | x :: xs, y :: ys, hx, hy, h => by
    obtain ⟨a1, a2⟩ := List.pairwise_cons.mp hx
    obtain ⟨b1, b2⟩ := List.pairwise_cons.mp hy
    have e : x = y := by
      rcases List.mem_cons.mp ((h x).mp List.mem_cons_self) with e | e
      · exact e
      · rcases List.mem_cons.mp ((h y).mpr List.mem_cons_self) with e' | e'
        · exact e'.symm
        · have := b1 _ e; have := a1 _ e'; omega
    subst e
    rw [lt_uniq a2 b2 fun k => ?_]
    have hk := h k
    simp only [List.mem_cons] at hk
    constructor
    · intro m
      rcases hk.mp (.inr m) with e | e
      · have := a1 _ m; omega
      · exact e
    · intro m
      rcases hk.mpr (.inr m) with e | e
      · have := b1 _ m; omega
      · exact e
theorem szl' : sizeLine = 16777216 := rfl
/-- sorted(set(x)) -/
def rSSet (K : PySem.W.Frag) : V → Hp → VK → Prop := fun x H1 Q => ∃ (l : Addr) (ns : List Int), x = .ref l ∧ (SqL K H1 l (ns.map V.int) ∨ SqT K H1 l (ns.map V.int)) ∧ ns.length ≤ 4000 ∧ (usort ns).length < 64 ∧ ∀ p, H1 p = none → Q (.ref p) (upd H1 p (.lst ((usort ns).map V.int)))
theorem setR_cong {w : World} {h : Heap} {a : Addr} {S T : Int → Bool} {n m : Nat} (r : SetR w h a S n) (t : SetR w h a T m) (e : ∀ k, S k = T k) : n = m := by
  obtain ⟨o, es, ep, t1, ho, _, hd, _, nd, hm, _, _, hn, _⟩ := r
  obtain ⟨o', es', ep', t1', ho', _, hd', _, nd', hm', _, _, hn', _⟩ := t
  rw [ho] at ho'; cases ho'
  rw [hd] at hd'; cases hd'
  rw [← hn, ← hn']
theorem setR_count {w : World} {h : Heap} {a : Addr} {ns : List Int} {c : Nat} (r : SetR w h a (fun j => decide (j ∈ ns)) c) : c = (usort ns).length := by
  obtain ⟨o, es, ep, t1, ho, _, hd, g, nd, hm, _, _, hn, _⟩ := r
  have p : (es.toList.map keyOf).Perm (usort ns) := by
    refine (List.perm_ext_iff_of_nodup nd ((isort_perm _).nodup_iff.mpr (dist_nodup ns))).mpr fun k => ?_
    have := hm k
    have u := usort_mem (ns := ns) (k := k)
    unfold usort at u
    rw [u]
    simpa using this.symm
  rw [← p.length_eq, List.length_map, Array.length_toList]
  exact hn.symm
theorem pe_sset {X : Cx} {a : Expr} {ta : TE} {p p2 q pos : Pos} (hg : Gl X "sorted") (hm : X.mg "sorted" = none) (hg2 : Gl X "set") (hm2 : X.mg "set" = none) (ha : PE X a ta) (hc : X.calm = true := by rfl)
    (na : starEach [a] X.env = (false, eval a X.env) :: starEach [] X.env := by rfl) : PE X (.Call (.Name "sorted" p) [.Call (.Name "set" p2) [a] [] q] [] pos) (tUn (rSSet X.K) ta) := by
  refine ⟨fun pins s σ H Q I h => ?_⟩
  refine Call_ (ld_blt I hg hm boot_sorted (callWith_builtin1 (args_cons ?_ rfl) rfl rfl))
  refine Call_ (ld_blt I hg2 hm2 boot_set (callWith_type1 (args_cons (thn (ha.run pins s σ H _ I h) fun v s1 ⟨x, H1, I1, r1, q1⟩ => args_nil ?_) na) na rfl))
  obtain ⟨l, ns, rfl, hq, hz, h64, q1⟩ := q1
  cases r1
  have post : ∀ (hp : Heap) (tk c : Nat), SetR X.w hp s1.heap.objs.size (fun j => decide (j ∈ ns)) c → c ≤ ns.length → (∀ b o, s1.heap.get? b = some o → hp.get? b = some o) →
      wpAny (model X.prog X.w) X.A (spliced (backTo pos (starEach [] X.env))) (fun vs s₂ => wpAny (model X.prog X.w) X.A (call (Value.builtin "sorted") (.ref s1.heap.objs.size :: vs)) (EP X pins σ Q) X.xe s₂) X.xe { s1 with heap := hp, toks := tk } := fun hp tk c R _ k1 => by
    refine args_nil ?_
    have hcn := setR_count R
    have I2 : Inv X pins σ H1 { s1 with heap := hp, toks := tk } := I1.kept k1
    refine sorted_set (s := { s1 with heap := hp, toks := tk }) R (I1.ok.hd hc) (by rw [hcn]; exact h64) fun s' p out c2 ks k2 gs os hp2 at_p nums up mem len => ?_
    have e : ks = usort ns := lt_uniq up (usort_lt ns) fun k => by rw [mem k, usort_mem]; simp
    subst e
    have free : H1 p = none := I2.hok.fresh hp2
    have J : Inv X pins σ (upd H1 p (.lst ((usort ns).map V.int))) { s1 with heap := s'.heap, gens := s'.gens, drawn := s'.drawn, toks := s'.toks } :=
      Inv.call (s := { s1 with heap := hp, toks := tk }) (ch := []) I2 (Un.laid k2 hp2 free) (I2.hok.laid k2 hp2 ⟨by rw [List.length_map, szl']; omega, out.toList, c2, vals_of_ints nums, at_p⟩) (by rw [gs]; exact I2.bare) (fun _ z => nomatch z)
    obtain ⟨h3, g3, d3, t3, o3⟩ := s'
    obtain rfl : o3 = s1.os := os
    exact ⟨.ref p, _, J, rfl, q1 p free⟩
  rcases hq with hq | hq
  · obtain ⟨us, r, pl, _⟩ := I1.list hq
    exact set_of_list ns (I1.ok.hd hc) pl.isList (by simpa using RZ.intsAre_vals r) (by unfold scanBound; omega) post
  · obtain ⟨us, r, tl, _⟩ := I1.tuple hq
    exact call_set_tupI ns (I1.ok.hd hc) tl (by simpa using RZ.intsAre_vals r) (by unfold scanBound; omega) post
section
variable {P : Program} {w : World} {A : Around} {E : Value → Shared → Prop} {s : Shared} {a : Addr}
/-- sorted of a set of whole numbers, however many -/
theorem sorted_setA {S : Int → Bool} {n : Nat} {Q : Value → Shared → Prop} (R : SetR w s.heap a S n) (quiet : A.handled = none)
    (post : ∀ s' p (out : Array Value) (c : Nat) (ns : List Int), (∀ b o, s.heap.get? b = some o → s'.heap.get? b = some o) → s'.gens = s.gens → s'.os = s.os → s.heap.objs.size ≤ p →
      s'.heap.get? p = some (seqObj "list" out c) → IntsAre out.toList ns → ns.Pairwise (· < ·) → (∀ k, k ∈ ns ↔ S k = true) → Q (.ref p) s') : wpAny (model P w) A (call (.builtin "sorted") [.ref a]) Q E s := by
  obtain ⟨o, es, ep, t, ho, hex, hd, good, nd, mem, small, fit, _, ris, led⟩ := R
  refine Calls.call_function_entry kind_sorted plain_sorted entry_sorted (args_sorted1 _) ?_
  unfold Builtin.«sorted»
  refine wpAny_bind (m := checkCount "sorted" 1 1 _) (wpAny_pure ?_)
  refine wpAny_bind (collect_set (A := A.in1) quiet ⟨o, ho, hex.1, hd⟩ fit small ris led fun s1 vs keep sz gs os perm => ?_)
  have len : vs.length ≤ sizeLine := by rw [perm.length_eq, List.length_map, Array.length_toList]; exact fits_of_scanBound small
  have nums : IntsAre vs (vs.map Builtin.Re.reRawOf) := ints_of vs fun v hv => by
    obtain ⟨e, he, q⟩ := List.mem_map.mp (perm.mem_iff.mp hv)
    obtain ⟨k, tk, h1, _⟩ := good e he
    exact ⟨k, tk, by rw [← q]; exact h1⟩
  have pk : (vs.map Builtin.Re.reRawOf).Perm (es.toList.map keyOf) := by
    have q := perm.map Builtin.Re.reRawOf
    rw [List.map_map] at q
    exact q
  refine wpAny_bind (wpAny_newList ?_ len)
  have at_l : (s1.heap.push (seqObj "list" vs.toArray 0)).get? s1.heap.objs.size = some (seqObj "list" vs.toArray 0) := Heap.get?_push_size _ rfl
  refine wpAny_bind (wpAny_holding (wpAny_call_entry slot_list_sort ⟨_, at_l, rfl⟩ entry_list_sort (list_sort_treeAny at_l nums len fun out ns' a1 a2 a3 => ⟨_, rfl, ?_⟩) (args_list_sort _)))
  obtain ⟨c, hc⟩ := sortedHeap_at (vs := vs) (out := out) at_l
  have pn : ns'.Perm (es.toList.map keyOf) := a2.trans pk
  refine wpAny_pure ⟨_, rfl, post _ s1.heap.objs.size out c ns' (fun b u e => ?_) gs os sz hc a1 (lt_of_le_nodup ns' a3 (pn.nodup_iff.mpr nd)) fun k => by rw [pn.mem_iff, ← mem k]⟩
  have q := keep b u e
  have older := Heap.lt_size q
  show (sortedHeap (s1.heap.push (seqObj "list" vs.toArray 0)) s1.heap.objs.size vs out).get? b = some u
  rw [sortedHeap_old (Nat.ne_of_lt older) (by rw [size_push']; exact Nat.lt_succ_of_lt older)]
  exact Heap.get?_push_of_some _ q
end
def rSSetA (K : PySem.W.Frag) : V → Hp → VK → Prop := fun x H1 Q => ∃ (l : Addr) (ns : List Int), x = .ref l ∧ (SqL K H1 l (ns.map V.int) ∨ SqT K H1 l (ns.map V.int)) ∧ ns.length ≤ 4000 ∧ ∀ p, H1 p = none → Q (.ref p) (upd H1 p (.lst ((usort ns).map V.int)))
theorem pe_ssetA {X : Cx} {a : Expr} {ta : TE} {p p2 q pos : Pos} (hg : Gl X "sorted") (hm : X.mg "sorted" = none) (hg2 : Gl X "set") (hm2 : X.mg "set" = none) (ha : PE X a ta) (hc : X.calm = true := by rfl)
    (na : starEach [a] X.env = (false, eval a X.env) :: starEach [] X.env := by rfl) : PE X (.Call (.Name "sorted" p) [.Call (.Name "set" p2) [a] [] q] [] pos) (tUn (rSSetA X.K) ta) := by
  refine ⟨fun pins s σ H Q I h => ?_⟩
  refine Call_ (ld_blt I hg hm boot_sorted (callWith_builtin1 (args_cons ?_ rfl) rfl rfl))
  refine Call_ (ld_blt I hg2 hm2 boot_set (callWith_type1 (args_cons (thn (ha.run pins s σ H _ I h) fun v s1 ⟨x, H1, I1, r1, q1⟩ => args_nil ?_) na) na rfl))
  obtain ⟨l, ns, rfl, hq, hz, q1⟩ := q1
  cases r1
  have post : ∀ (hp : Heap) (tk c : Nat), SetR X.w hp s1.heap.objs.size (fun j => decide (j ∈ ns)) c → c ≤ ns.length → (∀ b o, s1.heap.get? b = some o → hp.get? b = some o) →
      wpAny (model X.prog X.w) X.A (spliced (backTo pos (starEach [] X.env))) (fun vs s₂ => wpAny (model X.prog X.w) X.A (call (Value.builtin "sorted") (.ref s1.heap.objs.size :: vs)) (EP X pins σ Q) X.xe s₂) X.xe { s1 with heap := hp, toks := tk } := fun hp tk c R _ k1 => by
    refine args_nil ?_
    have hcn := setR_count R
    have I2 : Inv X pins σ H1 { s1 with heap := hp, toks := tk } := I1.kept k1
    refine sorted_setA (s := { s1 with heap := hp, toks := tk }) R (I1.ok.hd hc) fun s' p out c2 ks k2 gs os hp2 at_p nums up mem => ?_
    have e : ks = usort ns := lt_uniq up (usort_lt ns) fun k => by rw [mem k, usort_mem]; simp
    subst e
    have free : H1 p = none := I2.hok.fresh hp2
    have J : Inv X pins σ (upd H1 p (.lst ((usort ns).map V.int))) { s1 with heap := s'.heap, gens := s'.gens, drawn := s'.drawn, toks := s'.toks } :=
      Inv.call (s := { s1 with heap := hp, toks := tk }) (ch := []) I2 (Un.laid k2 hp2 free) (I2.hok.laid k2 hp2 ⟨by rw [List.length_map, szl']; have := usort_len ns; unfold usort; omega, out.toList, c2, vals_of_ints nums, at_p⟩) (by rw [gs]; exact I2.bare) (fun _ z => nomatch z)
    obtain ⟨h3, g3, d3, t3, o3⟩ := s'
    obtain rfl : o3 = s1.os := os
    exact ⟨.ref p, _, J, rfl, q1 p free⟩
  rcases hq with hq | hq
  · obtain ⟨us, r, pl, _⟩ := I1.list hq
    exact set_of_list ns (I1.ok.hd hc) pl.isList (by simpa using RZ.intsAre_vals r) (by unfold scanBound; omega) post
  · obtain ⟨us, r, tl, _⟩ := I1.tuple hq
    exact call_set_tupI ns (I1.ok.hd hc) tl (by simpa using RZ.intsAre_vals r) (by unfold scanBound; omega) post
def rLSet (K : PySem.W.Frag) : V → Hp → VK → Prop := fun x H1 Q => ∃ (l : Addr) (ns : List Int), x = .ref l ∧ (SqL K H1 l (ns.map V.int) ∨ SqT K H1 l (ns.map V.int)) ∧ ns.length ≤ 4000 ∧ Q (.int (usort ns).length) H1
theorem pe_lset {X : Cx} {a : Expr} {ta : TE} {p p2 q pos : Pos} (hg : Gl X "len") (hm : X.mg "len" = none) (hg2 : Gl X "set") (hm2 : X.mg "set" = none) (ha : PE X a ta) (hc : X.calm = true := by rfl)
    (na : starEach [a] X.env = (false, eval a X.env) :: starEach [] X.env := by rfl) : PE X (.Call (.Name "len" p) [.Call (.Name "set" p2) [a] [] q] [] pos) (tUn (rLSet X.K) ta) := by
  refine ⟨fun pins s σ H Q I h => ?_⟩
  refine Call_ (ld_blt I hg hm boot_len (callWith_builtin1 (args_cons ?_ rfl) rfl rfl))
  refine Call_ (ld_blt I hg2 hm2 boot_set (callWith_type1 (args_cons (thn (ha.run pins s σ H _ I h) fun v s1 ⟨x, H1, I1, r1, q1⟩ => args_nil ?_) na) na rfl))
  obtain ⟨l, ns, rfl, hq, hz, q1⟩ := q1
  cases r1
  have post : ∀ (hp : Heap) (tk c : Nat), SetR X.w hp s1.heap.objs.size (fun j => decide (j ∈ ns)) c → c ≤ ns.length → (∀ b o, s1.heap.get? b = some o → hp.get? b = some o) →
      wpAny (model X.prog X.w) X.A (spliced (backTo pos (starEach [] X.env))) (fun vs s₂ => wpAny (model X.prog X.w) X.A (call (Value.builtin "len") (.ref s1.heap.objs.size :: vs)) (EP X pins σ Q) X.xe s₂) X.xe { s1 with heap := hp, toks := tk } := fun hp tk c R hc1 k1 => by
    refine args_nil ?_
    have hcn := setR_count R
    have I2 : Inv X pins σ H1 { s1 with heap := hp, toks := tk } := I1.kept k1
    obtain ⟨o, es, ep, t, ho, hex, hd, _, _, _, _, hf, hn, _⟩ := R
    have sz : es.size = (usort ns).length := hn.trans hcn
    exact call_len_set (s := { s1 with heap := hp, toks := tk }) ho hex hd hf (by rw [hn] <;> omega) ⟨.int (usort ns).length, H1, I2.tok _, ⟨_, by rw [sz]⟩, q1⟩
  rcases hq with hq | hq
  · obtain ⟨us, r, pl, _⟩ := I1.list hq
    exact set_of_list ns (I1.ok.hd hc) pl.isList (by simpa using RZ.intsAre_vals r) (by unfold scanBound; omega) post
  · obtain ⟨us, r, tl, _⟩ := I1.tuple hq
    exact call_set_tupI ns (I1.ok.hd hc) tl (by simpa using RZ.intsAre_vals r) (by unfold scanBound; omega) post
/-! ### over data -/
def fSSet : R → GH → QK → Prop := fun x g Q => ∃ ns : List Int, (lstOf g x (ns.map .int) ∨ tupOf x (ns.map .int)) ∧ ns.length ≤ 4000 ∧ (usort ns).length < 64 ∧ Q (.tl ((usort ns).map .int)) g
def fSSetA : R → GH → QK → Prop := fun x g Q => ∃ ns : List Int, (lstOf g x (ns.map .int) ∨ tupOf x (ns.map .int)) ∧ ns.length ≤ 4000 ∧ Q (.tl ((usort ns).map .int)) g
def fLSet : R → GH → QK → Prop := fun x g Q => ∃ ns : List Int, (lstOf g x (ns.map .int) ∨ tupOf x (ns.map .int)) ∧ ns.length ≤ 4000 ∧ Q (.v (.int (usort ns).length)) g
theorem reps_ints {K : PySem.W.Frag} {H : Hp} {g : GH} : ∀ {ns : List Int} {vs : List V}, Reps K H g vs (ns.map .int) → vs = ns.map V.int
  | [], _, .nil => rfl
  | n :: ns, _, .cons r t => by rw [reps_ints t, int_of r]; rfl
theorem ints_arg {K : PySem.W.Frag} {B : List Addr} {H : Hp} {g : GH} {x : V} {d : R} {ns : List Int} (w : Vw K B H g) (rx : Rep K (hide H B) g x d.fz) (h : lstOf g d (ns.map .int) ∨ tupOf d (ns.map .int)) :
    ∃ l, x = .ref l ∧ (SqL K H l (ns.map V.int) ∨ SqT K H l (ns.map V.int)) := by
  rcases h with h | h
  · obtain ⟨a, vs, rfl, ha, r⟩ := h.rep w.rg rx
    obtain rfl := reps_ints r
    exact ⟨a, rfl, .inl (.inl (.inl (of_hide ha).1))⟩
  · obtain ⟨a, vs, rfl, ha, r⟩ := h.rep rx
    obtain rfl := reps_ints r
    exact ⟨a, rfl, .inr (sqT_un ha)⟩
theorem ok_sset {K : PySem.W.Frag} : R1Ok K fSSet (rSSet K) := fun x d B H g Q0 Q rx w ⟨ns, ha, hz, h64, q⟩ c => by
  obtain ⟨l, rfl, hl⟩ := ints_arg w rx ha
  refine ⟨l, ns, rfl, hl, hz, h64, fun p hp => ?_⟩
  exact c.newL q (Reps.ints (usort ns)) w p hp
theorem ok_ssetA {K : PySem.W.Frag} : R1Ok K fSSetA (rSSetA K) := fun x d B H g Q0 Q rx w ⟨ns, ha, hz, q⟩ c => by
  obtain ⟨l, rfl, hl⟩ := ints_arg w rx ha
  exact ⟨l, ns, rfl, hl, hz, fun p hp => c.newL q (Reps.ints (usort ns)) w p hp⟩
theorem ok_lset {K : PySem.W.Frag} : R1Ok K fLSet (rLSet K) := fun x d B H g Q0 Q rx w ⟨ns, ha, hz, q⟩ c => by
  obtain ⟨l, rfl, hl⟩ := ints_arg w rx ha
  exact ⟨l, ns, rfl, hl, hz, c.here q (.int _) w⟩

/-! ### len(set(x)), x a list of fewer than 64 tuples of ints -/
def rLSetT (K : PySem.W.Frag) : V → Hp → VK → Prop := fun x H Q => ∃ (l : Addr) (ks : List (Addr × List Int)), x = .ref l ∧ SqL K H l (ks.map fun p => V.ref p.1) ∧ (∀ p ∈ ks, SqT K H p.1 (p.2.map V.int)) ∧ ks.length < 64 ∧
  ∀ L : List (List Int), L.Nodup → (∀ c, c ∈ L ↔ c ∈ ks.map (·.2)) → Q (.int L.length) H
theorem pe_lsetT {X : Cx} {a : Expr} {ta : TE} {p p2 q pos : Pos} (hu : X.A.units + 65 < cLine) (hg : Gl X "len") (hm : X.mg "len" = none) (hg2 : Gl X "set") (hm2 : X.mg "set" = none) (ha : PE X a ta) (hc : X.calm = true := by rfl)
    (na : starEach [a] X.env = (false, eval a X.env) :: starEach [] X.env := by rfl) : PE X (.Call (.Name "len" p) [.Call (.Name "set" p2) [a] [] q] [] pos) (tUn (rLSetT X.K) ta) := by
  refine ⟨fun pins s σ H Q I h => ?_⟩
  refine Call_ (ld_blt I hg hm boot_len (callWith_builtin1 (args_cons ?_ rfl) rfl rfl))
  refine Call_ (ld_blt I hg2 hm2 boot_set (callWith_type1 (args_cons (thn (ha.run pins s σ H _ I h) fun v s1 ⟨x, H1, I1, r1, q1⟩ => args_nil ?_) na) na rfl))
  obtain ⟨l, ks, rfl, hl, hk, hz, q1⟩ := q1
  cases r1
  obtain ⟨its, rv, pl, _⟩ := I1.list hl
  refine call_set_tups (P := X.prog) (w := X.w) ks (I1.ok.hd hc) pl.isList (by simpa using refs_of_vals rv) (fun p hp => I1.isT (hk p hp)) hz (by omega) fun h' tk L es ep t R g k => ?_
  refine args_nil ?_
  have I2 : Inv X pins σ H1 { s1 with heap := h', toks := tk } := I1.kept k
  obtain ⟨o, ho, hex, hd⟩ := R.ob
  have sz : es.size = (L.map (·.2)).length := by rw [SetTR.size (s := { s1 with heap := h', toks := tk }) R, List.length_map]
  have few := R.few
  refine call_len_set (s := { s1 with heap := h', toks := tk }) ho hex hd (SetTR.fits (s := { s1 with heap := h', toks := tk }) R) (by rw [sz, List.length_map]; omega) ⟨.int (L.map (·.2)).length, H1, I2.tok _, ⟨_, by rw [sz]⟩, q1 _ R.nd fun c => ⟨fun m => ?_, fun m => ?_⟩⟩
  · obtain ⟨p, hp, rfl⟩ := List.mem_map.mp m
    exact List.mem_map.mpr ⟨p, List.mem_of_mem_take (g.sub p hp), rfl⟩
  · obtain ⟨p, hp, rfl⟩ := List.mem_map.mp m
    exact g.all p (by rw [List.take_length]; exact hp)
def fLSetT : R → GH → QK → Prop := fun x g Q => ∃ cs : List (List Int), lstOf g x (cs.map fun c => .tup (c.map .int)) ∧ cs.length < 64 ∧ ∀ L : List (List Int), L.Nodup → (∀ c, c ∈ L ↔ c ∈ cs) → Q (.v (.int L.length)) g
theorem tups_ref {K : PySem.W.Frag} {B : List Addr} {H : Hp} {g : GH} : ∀ {cs : List (List Int)} {vs : List V}, Reps K (hide H B) g vs (cs.map fun c => .tup (c.map .int)) → ∃ ks : List (Addr × List Int), vs = ks.map (fun p => V.ref p.1) ∧ ks.map (·.2) = cs ∧ ∀ p ∈ ks, SqT K H p.1 (p.2.map V.int)
  | [], _, .nil => ⟨[], rfl, rfl, by simp⟩
  | c :: cs, _, .cons r t => by
    obtain ⟨ks, rfl, e, hk⟩ := tups_ref t
    cases r with
    | @tup a us _ h r =>
      obtain rfl := reps_ints r
      exact ⟨(a, c) :: ks, rfl, by rw [List.map_cons, e], fun p m => (List.mem_cons.mp m).elim (fun z => by rw [z]; exact .inl (.inl (of_hide h).1)) (hk p)⟩
theorem ok_lsetT {K : PySem.W.Frag} : R1Ok K fLSetT (rLSetT K) := fun x d B H g Q0 Q rx w ⟨cs, ha, hz, q⟩ c => by
  obtain ⟨a, vs, rfl, h, r⟩ := ha.rep w.rg rx
  obtain ⟨ks, rfl, e, hk⟩ := tups_ref r
  exact ⟨a, ks, rfl, .inl (.inl (of_hide h).1), hk, by rw [← e, List.length_map] at hz; exact hz, fun L hn hL => c.here (q L hn fun z => by rw [hL z, e]) (.int _) w⟩
/-! ### forms of one thing -/
/-- xs[::-1] -/
def fRev : R → GH → QK → Prop := fun x g Q => ∃ xs, lstOf g x xs ∧ Q (.tl xs.reverse) g
def rRev1 (K : PySem.W.Frag) : V → Hp → VK → Prop := fun x H Q => ∃ a xs, x = .ref a ∧ SqL K H a xs ∧ ∀ p, H p = none → Q (.ref p) (upd H p (.lst xs.reverse))
theorem Reps.rev {K : PySem.W.Frag} {H : Hp} {g : GH} : ∀ {vs : List V} {ds : List D}, Reps K H g vs ds → Reps K H g vs.reverse ds.reverse
  | _, _, .nil => .nil
  | _, _, .cons r t => by
    rw [List.reverse_cons, List.reverse_cons]
    exact (Reps.rev t).append (.one r)
theorem ok_rev {K : PySem.W.Frag} : R1Ok K fRev (rRev1 K) := fun x d B H g Q0 Q rx w ⟨xs, ha, q⟩ c => by
  obtain ⟨a, vs, rfl, h, r⟩ := ha.rep w.rg rx
  exact ⟨a, vs, rfl, .inl (.inl (of_hide h).1), fun p hp => c.newL q r.rev w p hp⟩
/-- t[::-1] -/
def fRevT : R → GH → QK → Prop := fun x g Q => ∃ xs, tupOf x xs ∧ Q (.v (.tup xs.reverse)) g
theorem ok_revT {K : PySem.W.Frag} : R1Ok K fRevT (rRevT K) := fun x d B H g Q0 Q rx w ⟨xs, ha, q⟩ c => by
  obtain ⟨a, vs, rfl, h, r⟩ := ha.rep rx
  exact ⟨a, vs, rfl, sqT_un h, fun p hp => c.newT q r.rev w p hp⟩
/-- t[2:0:-1] of four -/
def fRow2 : R → GH → QK → Prop := fun x g Q => ∃ a b c d, tupOf x [a, b, c, d] ∧ Q (.v (.tup [c, b])) g
theorem ok_row2 {K : PySem.W.Frag} : R1Ok K fRow2 (rRow2 K) := fun x d B H g Q0 Q rx w ⟨d0, d1, d2, d3, ha, q⟩ c => by
  obtain ⟨a, vs, rfl, h, r⟩ := ha.rep rx
  cases r with
  | cons r0 r => cases r with
    | cons r1 r => cases r with
      | cons r2 r => cases r with
        | cons r3 r => cases r with
          | nil => exact ⟨a, _, _, _, _, rfl, sqT_un h, fun p hp => c.newT q (.cons r2 (.cons r1 .nil)) w p hp⟩
inductive Ufn | sset | lset | rev | revT | row2 | ssetA | lsetT
def Ufn.f : Ufn → R → GH → QK → Prop
  | .sset => fSSet
  | .ssetA => fSSetA
  | .lset => fLSet
  | .lsetT => fLSetT
  | .rev => fRev
  | .revT => fRevT
  | .row2 => fRow2
/-- what stands in the form's place -/
def argS : Expr → Option Expr
  | .Call (.Name x _) [.Call (.Name y _) [a] [] _] [] _ => if x = ("sorted" : Str) ∧ y = ("set" : Str) then some a else none
  | _ => none
def argN : Expr → Option Expr
  | .Call (.Name x _) [.Call (.Name y _) [a] [] _] [] _ => if x = ("len" : Str) ∧ y = ("set" : Str) then some a else none
  | _ => none
def argR : Expr → Option Expr
  | .Subscript e (.Slice none none (some (.UnaryOp .USub (.Constant (.int 1) _ _) _)) _) _ => some e
  | _ => none
def argR2 : Expr → Option Expr
  | .Subscript e (.Slice (some (.Constant (.int 2) _ _)) (some (.Constant (.int 0) _ _)) (some (.UnaryOp .USub (.Constant (.int 1) _ _) _)) _) _ => some e
  | _ => none
def Ufn.arg : Ufn → Expr → Option Expr
  | .sset => argS
  | .ssetA => argS
  | .lset => argN
  | .lsetT => argN
  | .rev => argR
  | .revT => argR
  | .row2 => argR2
def Ufn.names : Ufn → List Str
  | .sset => ["sorted", "set"]
  | .ssetA => ["sorted", "set"]
  | .lset => ["len", "set"]
  | .lsetT => ["len", "set"]
  | .rev => []
  | .revT => []
  | .row2 => []
theorem Ufn.ok (X : Cx) (hu : X.A.units + 65 < cLine) (f : Ufn) : ∃ r, R1Ok X.K f.f r ∧ ∀ {a y : Expr} {te : TE}, f.arg a = some y → (∀ n ∈ f.names, Gl X n ∧ X.mg n = none) → starEach [y] X.env = (false, eval y X.env) :: starEach [] X.env → X.calm = true → PE X y te → PE X a (tUn r te) := by
  cases f with
  | revT =>
    refine ⟨_, ok_revT, fun {a y te} e nm st hc h => ?_⟩
    change argR a = some y at e
    unfold argR at e
    split at e
    · cases e
      exact pe_revT h
    · cases e
  | row2 =>
    refine ⟨_, ok_row2, fun {a y te} e nm st hc h => ?_⟩
    change argR2 a = some y at e
    unfold argR2 at e
    split at e
    · cases e
      exact pe_row2 h
    · cases e
  | rev =>
    refine ⟨_, ok_rev, fun {a y te} e nm st hc h => ?_⟩
    change argR a = some y at e
    unfold argR at e
    split at e
    · cases e
      exact pe_revL h
    · cases e
  | sset =>
    refine ⟨_, ok_sset, fun {a y te} e nm st hc h => ?_⟩
    change argS a = some y at e
    unfold argS at e
    split at e
    · split at e
      · rename_i q
        cases e
        obtain ⟨rfl, rfl⟩ := q
        exact pe_sset (nm "sorted" (by decide)).1 (nm "sorted" (by decide)).2 (nm "set" (by decide)).1 (nm "set" (by decide)).2 h hc st
      · cases e
    · cases e
  | ssetA =>
    refine ⟨_, ok_ssetA, fun {a y te} e nm st hc h => ?_⟩
    change argS a = some y at e
    unfold argS at e
    split at e
    · split at e
      · rename_i q
        cases e
        obtain ⟨rfl, rfl⟩ := q
        exact pe_ssetA (nm "sorted" (by decide)).1 (nm "sorted" (by decide)).2 (nm "set" (by decide)).1 (nm "set" (by decide)).2 h hc st
      · cases e
    · cases e
  | lset =>
    refine ⟨_, ok_lset, fun {a y te} e nm st hc h => ?_⟩
    change argN a = some y at e
    unfold argN at e
    split at e
    · split at e
      · rename_i q
        cases e
        obtain ⟨rfl, rfl⟩ := q
        exact pe_lset (nm "len" (by decide)).1 (nm "len" (by decide)).2 (nm "set" (by decide)).1 (nm "set" (by decide)).2 h hc st
      · cases e
    · cases e
  | lsetT =>
    refine ⟨_, ok_lsetT, fun {a y te} e nm st hc h => ?_⟩
    change argN a = some y at e
    unfold argN at e
    split at e
    · split at e
      · rename_i q
        cases e
        obtain ⟨rfl, rfl⟩ := q
        exact pe_lsetT hu (nm "len" (by decide)).1 (nm "len" (by decide)).2 (nm "set" (by decide)).1 (nm "set" (by decide)).2 h hc st
      · cases e
    · cases e
end G3
/-! G3lz: list(zip(x, y)) -/
namespace G3
open PySem PySem.Spec PyProof.Rows L2 HT
section
variable {prog : Program} {w : World} {A : Around} {E : Value → Shared → Prop} {s : Shared}
theorem zl_nolen : typeLookup (.type "zip") "__len__" = pure none := am_miss_of_fast (by decide +kernel)
theorem zl_nohint : typeLookup (.type "zip") "__length_hint__" = pure none := am_miss_of_fast (by decide +kernel)
theorem ad_ne {a b n : Addr} (h1 : n ≤ a) (h2 : b < n) : a ≠ b := fun e => by subst e; exact Nat.lt_irrefl _ (Nat.lt_of_lt_of_le h2 h1)
/-- so many pairs told: new tuples, one behind the other -/
def PrsAt (n0 : Addr) (xs ys : Array Value) (h : Heap) (acc : Array Value) (Ts : List Addr) : Prop :=
  acc.toList = Ts.map Value.ref ∧ Ts.Pairwise (· < ·) ∧ (∀ T ∈ Ts, n0 ≤ T) ∧ ∀ (j : Nat) (T : Addr), Ts[j]? = some T → ∃ x y, xs[j]? = some x ∧ ys[j]? = some y ∧ IsPair h T x y
theorem PrsAt.keep {n0 : Addr} {xs ys : Array Value} {h h' : Heap} {acc : Array Value} {Ts : List Addr} (P : PrsAt n0 xs ys h acc Ts) (k : ∀ b o, n0 ≤ b → h.get? b = some o → h'.get? b = some o) : PrsAt n0 xs ys h' acc Ts := by
  obtain ⟨p1, p2, p3, p4⟩ := P
  refine ⟨p1, p2, p3, fun j T hj => ?_⟩
  obtain ⟨x, y, e1, e2, e3⟩ := p4 j T hj
  exact ⟨x, y, e1, e2, k _ _ (p3 T (List.mem_of_getElem? hj)) e3⟩
theorem PrsAt.push {n0 : Addr} {xs ys : Array Value} {h : Heap} {acc : Array Value} {Ts : List Addr} {x y : Value} {t : Addr} (P : PrsAt n0 xs ys h acc Ts) (hl : ∀ T ∈ Ts, T < t)
    (h0 : n0 ≤ t) (hp : IsPair h t x y) (hx : xs[Ts.length]? = some x) (hy : ys[Ts.length]? = some y) : PrsAt n0 xs ys h (acc.push (.ref t)) (Ts ++ [t]) := by
  obtain ⟨p1, p2, p3, p4⟩ := P
  refine ⟨by rw [Array.toList_push, p1, List.map_append]; rfl, List.pairwise_append.mpr ⟨p2, List.pairwise_singleton _ _, fun a ha b hb => by rw [List.mem_singleton.mp hb]; exact hl a ha⟩, fun T hT => ?_, fun j T hj => ?_⟩
  · rcases List.mem_append.mp hT with m | m
    · exact p3 T m
    · rw [List.mem_singleton.mp m]; exact h0
  · rcases Nat.lt_trichotomy j Ts.length with q | q | q
    · rw [List.getElem?_append_left q] at hj
      exact p4 j T hj
    · subst q
      rw [List.getElem?_append_right (Nat.le_refl _), Nat.sub_self] at hj
      cases hj
      exact ⟨x, y, hx, hy, hp⟩
    · rw [List.getElem?_eq_none (by rw [List.length_append]; exact q)] at hj; cases hj
/-- the objects of a zip that is being listed: all new but the two lists -/
structure ZlOk (n0 : Addr) (z TI TO i1 i2 l1 l2 S : Addr) : Prop where
  D : ZipApart z TI TO i1 i2 l1 l2
  lt : z < n0 ∧ TI < n0 ∧ TO < n0 ∧ i1 < n0 ∧ i2 < n0 ∧ S < n0
  Sz : S ≠ z
  STI : S ≠ TI
  STO : S ≠ TO
  S1 : S ≠ i1
  S2 : S ≠ i2
  Sl1 : S ≠ l1
  Sl2 : S ≠ l2
theorem upd_list {S : Addr} {acc : Array Value} {c : Nat} {v : Value} {Q : Unit → Shared → Prop} (hS : s.heap.get? S = some { cls := .type "list", dict := none, data := .seq acc c, slots := #[] }) (hz : acc.size < sizeLine)
    (h : ∀ h' c', h'.get? S = some { cls := .type "list", dict := none, data := .seq (acc.push v) c', slots := #[] } → Heap.SameBut S s.heap h' → Q () { s with heap := h' }) : wpAny (model prog w) A (updateSeq S (·.push v)) Q E s :=
  wpAny_updateSeq hS rfl (h _ _ (Heap.get?_update_self _ hS rfl) (Heap.SameBut.update ..)) (by omega) (by show (acc.push v).size ≤ sizeLine + 1; rw [Array.size_push]; omega)
theorem zl_loop {R : Result → Shared → Prop} {n0 : Addr} {z TI TO T i1 i2 l1 l2 S : Addr} (O : ZlOk n0 z TI TO i1 i2 l1 l2 S) {xs ys : Array Value} (hh : A.handled = none) (hn : min xs.size ys.size ≤ sizeLine) (hT0 : n0 ≤ T) (res : Value) :
    ∀ (k : Nat) (s : Shared) (acc : Array Value) (Ts : List Addr) (c : Nat) (f : Bool) (oT : Obj), min xs.size ys.size - Ts.length = k → Ts.length ≤ min xs.size ys.size → IsZipHeld s.heap z TI TO T f → s.heap.get? T = some oT → IsPair s.heap TI (.ref i1) (.ref i2) →
    s.heap.IsListIter i1 l1 Ts.length → s.heap.IsListIter i2 l2 Ts.length → s.heap.IsList l1 xs → s.heap.IsList l2 ys → s.heap.get? S = some { cls := .type "list", dict := none, data := .seq acc c, slots := #[] } → PrsAt n0 xs ys s.heap acc Ts → n0 ≤ s.heap.objs.size → (∀ T ∈ Ts, T < s.heap.objs.size) →
    (∀ h' acc' c' Ts', (∀ b o, b ∉ [z, TI, TO, i1, i2, S] → s.heap.get? b = some o → h'.get? b = some o) → h'.get? S = some { cls := .type "list", dict := none, data := .seq acc' c', slots := #[] } → Ts'.length = min xs.size ys.size → PrsAt n0 xs ys h' acc' Ts' → R (.ok (.ret res)) { s with heap := h' }) →
    codeAny (model prog w) A (.builtin "list.extend.loop" ⟨[.ref S, .ref z, res], []⟩) R s := by
  obtain ⟨D, ⟨lz, lTI, lTO, li1, li2, lS⟩, Sz, STI, STO, S1, S2, Sl1, Sl2⟩ := O
  intro k
  induction k with
  | zero =>
    intro s acc Ts c f oT hk hle hz hT hTI h1 h2 hl1 hl2 hS P hs0 hTl hR
    refine codeAny_builtin F.entry_extend_loop ?_
    rw [Around.under_plainId F.plain_extend_loop _]
    show wpAny _ A.in1 (pyNext (.ref z) >>= _) _ _ s
    have hend : xs[Ts.length]? = none ∨ ys[Ts.length]? = none := by
      rcases Nat.le_total xs.size ys.size with q | q
      · exact .inl (Array.getElem?_eq_none (by omega))
      · exact .inr (Array.getElem?_eq_none (by omega))
    have hh1 : A.in1.handled = none := hh
    refine wpAny_bind (wpAny_pyNext_zip_end_held hh1 D hz hT hTI h1 h2 hl1 hl2 hend fun h' hk' => ?_)
    exact wpAny_pure (hR h' acc c Ts (fun b o hb e => hk' b o (fun q => hb (by simp [q])) (fun q => hb (by simp [q])) (fun q => hb (by simp [q])) e) (hk' _ _ Sz S1 S2 hS) (by omega) (P.keep fun b o hb e => hk' _ _ (ad_ne hb lz) (ad_ne hb li1) (ad_ne hb li2) e))
  | succ k ih =>
    intro s acc Ts c f oT hk hle hz hT hTI h1 h2 hl1 hl2 hS P hs0 hTl hR
    refine codeAny_builtin F.entry_extend_loop ?_
    rw [Around.under_plainId F.plain_extend_loop _]
    show wpAny _ A.in1 (pyNext (.ref z) >>= _) _ _ s
    have hx : xs[Ts.length]? = some xs[Ts.length] := Array.getElem?_eq_getElem (by omega)
    have hy : ys[Ts.length]? = some ys[Ts.length] := Array.getElem?_eq_getElem (by omega)
    refine wpAny_bind (wpAny_pyNext_zip_item_held D hz hT hTI h1 h2 hl1 hl2 hx hy fun h' z' h1' h2' hp' hsz' hk' => ?_)
    have hS' := hk' _ _ Sz S1 S2 hS
    have P' := (P.keep (h' := h') fun b o hb e => hk' b o (ad_ne hb lz) (ad_ne hb li1) (ad_ne hb li2) e).push hTl hs0 hp' hx hy
    have hal : acc.size = Ts.length := by have := congrArg List.length P.1; rw [Array.length_toList, List.length_map] at this; exact this
    show wpAny _ A.in1 (updateSeq S (·.push (.ref s.heap.objs.size)) >>= _) _ _ _
    refine wpAny_bind (upd_list (s := { s with heap := h' }) hS' (by omega) fun h'' c'' hS'' sb => ?_)
    have kb : ∀ b o, b ≠ S → h'.get? b = some o → h''.get? b = some o := fun b o hb e => (sb.2 b hb).trans e
    have hT2 := kb _ _ (ad_ne hT0 lS) (hk' _ _ (ad_ne hT0 lz) (ad_ne hT0 li1) (ad_ne hT0 li2) hT)
    have e1 : Ts.length + 1 = (Ts ++ [s.heap.objs.size]).length := by simp
    have sz2 : h''.objs.size = s.heap.objs.size + 1 := sb.1.trans hsz'
    refine wpAny_pure ⟨plainId_quiet F.plain_extend_loop _, ih { s with heap := h'' } (acc.push (.ref s.heap.objs.size)) (Ts ++ [s.heap.objs.size]) c'' true oT (by simp; omega) (by simp; omega) (kb _ _ Sz.symm z') hT2 (kb _ _ STI.symm (hk' _ _ D.TIz D.TIi1 D.TIi2 hTI))
      (by rw [← e1]; exact h1'.at fun o e => kb _ o S1.symm e) (by rw [← e1]; exact h2'.at fun o e => kb _ o S2.symm e) (hl1.at fun o e => kb _ o Sl1.symm (hk' _ _ D.l1z D.l1i1 D.l1i2 e)) (hl2.at fun o e => kb _ o Sl2.symm (hk' _ _ D.l2z D.l2i1 D.l2i2 e)) hS'' (P'.keep fun b o hb e => kb b o (ad_ne hb lS) e)
      (by show n0 ≤ h''.objs.size; rw [sz2]; exact Nat.le_succ_of_le hs0) (fun T' m => ?_) fun h3 acc' c3 Ts' k3 hS3 hl3 P3 => ?_⟩
    · show T' < h''.objs.size
      rw [sz2]
      rcases List.mem_append.mp m with m | m
      · exact Nat.lt_succ_of_lt (hTl T' m)
      · rw [List.mem_singleton.mp m]; exact Nat.lt_succ_self _
    · exact hR h3 acc' c3 Ts' (fun b o hb e => k3 b o hb (kb b o (fun q => hb (by simp [q])) (hk' b o (fun q => hb (by simp [q])) (fun q => hb (by simp [q])) (fun q => hb (by simp [q])) e))) hS3 hl3 P3
theorem zl_first {R : Result → Shared → Prop} {n0 : Addr} {z TI TO i1 i2 l1 l2 S : Addr} (O : ZlOk n0 z TI TO i1 i2 l1 l2 S) {xs ys : Array Value} (hh : A.handled = none) (hn : min xs.size ys.size ≤ sizeLine) (res : Value) {c : Nat} {a b : Value}
    (hz : IsZip s.heap z TI TO .none) (hTI : IsPair s.heap TI (.ref i1) (.ref i2)) (hTO : IsPair s.heap TO a b) (h1 : s.heap.IsListIter i1 l1 0) (h2 : s.heap.IsListIter i2 l2 0) (hl1 : s.heap.IsList l1 xs) (hl2 : s.heap.IsList l2 ys)
    (hS : s.heap.get? S = some { cls := .type "list", dict := none, data := .seq #[] c, slots := #[] }) (hs0 : n0 ≤ s.heap.objs.size)
    (hR : ∀ h' acc' c' Ts', (∀ b o, b ∉ [z, TI, TO, i1, i2, S] → s.heap.get? b = some o → h'.get? b = some o) → h'.get? S = some { cls := .type "list", dict := none, data := .seq acc' c', slots := #[] } → Ts'.length = min xs.size ys.size → PrsAt n0 xs ys h' acc' Ts' → R (.ok (.ret res)) { s with heap := h' }) :
    codeAny (model prog w) A (.builtin "list.extend.loop" ⟨[.ref S, .ref z, res], []⟩) R s := by
  have O' := O
  obtain ⟨D, ⟨lz, lTI, lTO, li1, li2, lS⟩, Sz, STI, STO, S1, S2, Sl1, Sl2⟩ := O'
  have hh1 : A.in1.handled = none := hh
  refine codeAny_builtin F.entry_extend_loop ?_
  rw [Around.under_plainId F.plain_extend_loop _]
  show wpAny _ A.in1 (pyNext (.ref z) >>= _) _ _ s
  by_cases hm : min xs.size ys.size = 0
  · have hend : xs[0]? = none ∨ ys[0]? = none := by
      rcases Nat.le_total xs.size ys.size with q | q
      · exact .inl (Array.getElem?_eq_none (by omega))
      · exact .inr (Array.getElem?_eq_none (by omega))
    refine wpAny_bind (wpAny_pyNext_zip_end hh1 D hz hTI hTO h1 h2 hl1 hl2 hend fun h' hk' => ?_)
    exact wpAny_pure (hR h' #[] c [] (fun b o hb e => hk' b o (fun q => hb (by simp [q])) (fun q => hb (by simp [q])) (fun q => hb (by simp [q])) (fun q => hb (by simp [q])) e) (hk' _ _ Sz STO S1 S2 hS) hm.symm ⟨rfl, .nil, fun T m => (nomatch m), fun j T m => by simp at m⟩)
  · have hx : xs[0]? = some xs[0] := Array.getElem?_eq_getElem (by omega)
    have hy : ys[0]? = some ys[0] := Array.getElem?_eq_getElem (by omega)
    refine wpAny_bind (wpAny_pyNext_zip_item D hz hTI hTO h1 h2 hl1 hl2 hx hy fun h' z' hTO' h1' h2' hp' hsz' hk' => ?_)
    have hS' := hk' _ _ Sz STO S1 S2 hS
    have P0 : PrsAt n0 xs ys h' #[] [] := ⟨rfl, .nil, fun T m => (nomatch m), fun j T m => by simp at m⟩
    have P' := P0.push (fun T m => (nomatch m)) hs0 hp' hx hy
    show wpAny _ A.in1 (updateSeq S (·.push (.ref s.heap.objs.size)) >>= _) _ _ _
    refine wpAny_bind (upd_list (s := { s with heap := h' }) hS' (by rw [sizeLine_eq]; decide) fun h'' c'' hS'' sb => ?_)
    have kb : ∀ b o, b ≠ S → h'.get? b = some o → h''.get? b = some o := fun b o hb e => (sb.2 b hb).trans e
    have sz2 : h''.objs.size = s.heap.objs.size + 1 := sb.1.trans hsz'
    refine wpAny_pure ⟨plainId_quiet F.plain_extend_loop _, zl_loop O hh hn hs0 res _ { s with heap := h'' } _ [s.heap.objs.size] c'' false _ rfl (by simp; omega) (kb _ _ Sz.symm z') (kb _ _ (ad_ne hs0 lS) hp') (kb _ _ STI.symm (hk' _ _ D.TIz D.TITO D.TIi1 D.TIi2 hTI))
      (h1'.at fun o e => kb _ o S1.symm e) (h2'.at fun o e => kb _ o S2.symm e) (hl1.at fun o e => kb _ o Sl1.symm (hk' _ _ D.l1z D.l1TO D.l1i1 D.l1i2 e)) (hl2.at fun o e => kb _ o Sl2.symm (hk' _ _ D.l2z D.l2TO D.l2i1 D.l2i2 e)) hS'' (P'.keep fun b o hb e => kb b o (ad_ne hb lS) e)
      (by show n0 ≤ h''.objs.size; rw [sz2]; exact Nat.le_succ_of_le hs0) (fun T' m => ?_) fun h3 acc' c3 Ts' k3 hS3 hl3 P3 => ?_⟩
    · show T' < h''.objs.size
      rw [sz2, List.mem_singleton.mp m]; exact Nat.lt_succ_self _
    · exact hR h3 acc' c3 Ts' (fun b o hb e => k3 b o hb (kb b o (fun q => hb (by simp [q])) (hk' b o (fun q => hb (by simp [q])) (fun q => hb (by simp [q])) (fun q => hb (by simp [q])) (fun q => hb (by simp [q])) e))) hS3 hl3 P3
theorem zl_init {R : Result → Shared → Prop} {n0 : Addr} {z TI TO i1 i2 l1 l2 S : Addr} (O : ZlOk n0 z TI TO i1 i2 l1 l2 S) {xs ys : Array Value} (hh : A.handled = none) (hn : min xs.size ys.size ≤ sizeLine) {a b : Value}
    (hz : IsZip s.heap z TI TO .none) (hTI : IsPair s.heap TI (.ref i1) (.ref i2)) (hTO : IsPair s.heap TO a b) (h1 : s.heap.IsListIter i1 l1 0) (h2 : s.heap.IsListIter i2 l2 0) (hl1 : s.heap.IsList l1 xs) (hl2 : s.heap.IsList l2 ys)
    (hS : s.heap.get? S = some { cls := .type "list", data := .seq #[] }) (hs0 : n0 ≤ s.heap.objs.size)
    (hR : ∀ h' acc' c' Ts', (∀ b o, b ∉ [z, TI, TO, i1, i2, S] → s.heap.get? b = some o → h'.get? b = some o) → h'.get? S = some { cls := .type "list", dict := none, data := .seq acc' c', slots := #[] } → Ts'.length = min xs.size ys.size → PrsAt n0 xs ys h' acc' Ts' → R (.ok (.ret .none)) { s with heap := h' }) :
    wpAny (model prog w) A.in1 (Builtin.«list.__init__» ⟨[.ref S, .ref z], []⟩)
      (fun fin s' => match fin with | .done f => R (.ok f) s' | .again c' => c'.quiet = true ∧ codeAny (model prog w) A c' R s') (fun e s' => R (.error e) s') s := by
  have O' := O
  obtain ⟨D, ⟨lz, lTI, lTO, li1, li2, lS⟩, Sz, STI, STO, S1, S2, Sl1, Sl2⟩ := O'
  show wpAny _ A.in1 (do let old ← Builtin.List.listItems (.ref S); Builtin.List.listUpdate (.ref S) (fun _ => #[]); letGo old.toList.reverse; Builtin.List.listExtendWith (.ref S) (.ref z) .none) _ _ s
  refine wpAny_bind ?_
  unfold Builtin.List.listItems
  refine wpAny_bind (wpAny_seqItems hS rfl (wpAny_pure ?_))
  show wpAny _ A.in1 (updateSeq S (fun _ => #[]) >>= fun _ => letGo (#[] : Array Value).toList.reverse >>= fun _ => Builtin.List.listExtendWith (.ref S) (.ref z) .none) _ _ s
  refine wpAny_bind (wpAny_updateSeq hS rfl ?_)
  have hSa := Heap.get?_update_self (Obj.mapSeq (fun _ => (#[] : Array Value))) hS rfl
  have sb1 : Heap.SameBut S s.heap (s.heap.update S (Obj.mapSeq fun _ => (#[] : Array Value))) := Heap.SameBut.update ..
  generalize s.heap.update S (Obj.mapSeq fun _ => (#[] : Array Value)) = ha at hSa sb1 ⊢
  refine wpAny_bind (wpAny_letGo ?_)
  unfold Builtin.List.listExtendWith
  have hzA : IsZip ha z TI TO .none := (sb1.2 _ Sz.symm).trans hz
  have hT : (Shared.mk ha s.gens s.drawn s.toks s.os).TypeIs (.ref z) "zip" := ⟨_, hzA, rfl⟩
  refine wpAny_bind (wpAny_typeOf hT ?_)
  have g1 : Builtin.List.listSameRef (.ref S) (.ref z) = false := by simp [Builtin.List.listSameRef, Sz]
  have g2 : (Value.type "zip" == Value.type "list") = false := by decide
  have g3 : (Value.type "zip" == Value.type "tuple") = false := by decide
  simp only [g1, g2, g3, Bool.or_false, Bool.false_eq_true, if_false]
  refine wpAny_bind (wpAny_pyIter_zip hzA ?_)
  refine wpAny_bind (wpAny_holding ?_)
  unfold Builtin.List.listLengthHint
  refine wpAny_bind (wpAny_specialOf hT zl_nolen ?_)
  show wpAny _ A.in1 (specialOf (Value.ref z) (Str.ofString "__length_hint__") >>= _) _ _ _
  refine wpAny_bind (wpAny_specialOf hT zl_nohint ?_)
  refine wpAny_pure ?_
  show wpAny _ A.in1 (rule "list.extend.makes-room" >>= fun _ => Builtin.List.listTouch (.ref S) >>= fun _ =>
    again (.builtin "list.extend.loop" ⟨[.ref S, .ref z, .none], []⟩)) _ _ _
  refine wpAny_bind (wpAny_rule ?_)
  refine wpAny_bind ?_
  show wpAny _ A.in1 (updateSeq S (·.push .none) >>= fun _ => updateSeq S (·.pop)) _ _ _
  refine wpAny_bind (wpAny_updateSeq hSa rfl ?_)
  have hSb := Heap.get?_update_self (Obj.mapSeq (·.push Value.none)) hSa rfl
  have sb2 : Heap.SameBut S ha (ha.update S (Obj.mapSeq (·.push Value.none))) := Heap.SameBut.update ..
  refine wpAny_updateSeq (hz := by seq_fits) hSb rfl ?_
  have hSc := Heap.get?_update_self (Obj.mapSeq (·.pop)) hSb rfl
  have sb3 : Heap.SameBut S (ha.update S (Obj.mapSeq (·.push Value.none))) ((ha.update S (Obj.mapSeq (·.push Value.none))).update S (Obj.mapSeq (·.pop))) := Heap.SameBut.update ..
  generalize (ha.update S (Obj.mapSeq (·.push Value.none))).update S (Obj.mapSeq (·.pop)) = hb at hSc sb3 ⊢
  have kb : ∀ b o, b ≠ S → s.heap.get? b = some o → hb.get? b = some o := fun b o hq e => (sb3.2 b hq).trans ((sb2.2 b hq).trans ((sb1.2 b hq).trans e))
  have szb : hb.objs.size = s.heap.objs.size := sb3.1.trans (sb2.1.trans sb1.1)
  refine wpAny_pure ⟨plainId_quiet F.plain_extend_loop _, zl_first (s := { s with heap := hb }) O hh hn .none (kb _ _ Sz.symm hz) (kb _ _ STI.symm hTI) (kb _ _ STO.symm hTO) (h1.at fun o e => kb _ o S1.symm e) (h2.at fun o e => kb _ o S2.symm e)
    (hl1.at fun o e => kb _ o Sl1.symm e) (hl2.at fun o e => kb _ o Sl2.symm e) hSc (by show n0 ≤ hb.objs.size; rw [szb]; exact hs0) fun h3 acc' c3 Ts' k3 hS3 hl3 P3 => ?_⟩
  exact hR h3 acc' c3 Ts' (fun b o hq e => k3 b o hq (kb b o (fun q => hq (by simp [q])) e)) hS3 hl3 P3
end
section
variable {X : Cx} {pins : List (Addr × Obj)} {σ : L2.St}
/-- pairs laid at new places -/
def zipH (H : Hp) : List Addr → List (V × V) → Hp
  | T :: Ts, p :: ps => zipH (upd H T (.tup [p.1, p.2])) Ts ps
  | _, _ => H
theorem laidZ {S : Addr} {vs : List V} {h3 : Heap} {tk : Tok} : ∀ (Ts : List Addr) (ps : List (V × V)) (H : Hp) (s : Shared), L2.Inv X pins σ H s → Ts.length = ps.length → Ts.Nodup → (∀ T ∈ Ts, H T = none ∧ s.heap.get? T = none) → S ∉ Ts → H S = none → s.heap.get? S = none →
    (∀ b o, s.heap.get? b = some o → h3.get? b = some o) → (∀ (j : Nat) (T : Addr) (p : V × V), Ts[j]? = some T → ps[j]? = some p → ∃ u v, IsPair h3 T u v ∧ RelV p.1 u ∧ RelV p.2 v) →
    (∀ H', ObjOk X.prog X.w H' h3 S (.lst vs)) → L2.Inv X pins σ (upd (zipH H Ts ps) S (.lst vs)) { s with heap := h3, toks := tk }
  | [], ps, H, s, I, _, _, _, _, hS, hS2, hk, _, hL => I.laidN hk hS2 hS (hL _)
  | T :: Ts, [], H, s, I, hl, _, _, _, _, _, _, _, _ => by simp at hl
  | T :: Ts, p :: ps, H, s, I, hl, hnd, hT, hST, hS, hS2, hk, hp, hL => by
    obtain ⟨n1, n2⟩ := List.nodup_cons.mp hnd
    obtain ⟨t1, t2⟩ := hT T List.mem_cons_self
    have ST : S ≠ T := fun e => hST (by rw [e]; exact List.mem_cons_self)
    have ST' : S ∉ Ts := fun m => hST (List.mem_cons_of_mem _ m)
    obtain ⟨G, g1, g2⟩ := restrict h3 fun b => decide (b ∉ Ts ∧ b ≠ S)
    have gT : G.get? T = h3.get? T := g1 T (decide_eq_true ⟨n1, ST.symm⟩)
    have kG : ∀ b o, s.heap.get? b = some o → G.get? b = some o := fun b o e => by
      rw [g1 b (decide_eq_true ⟨fun m => (nomatch (hT b (List.mem_cons_of_mem _ m)).2.symm.trans e), fun q => (nomatch (q ▸ hS2).symm.trans e)⟩)]
      exact hk b o e
    obtain ⟨u, v, hpT, ru, rv⟩ := hp 0 T p rfl rfl
    have I1 : L2.Inv X pins σ (upd H T (.tup [p.1, p.2])) { s with heap := G, toks := s.toks } := I.laidN kG t2 t1
      (show ObjOk X.prog X.w _ G T (.tup [p.1, p.2]) from ⟨by show 2 ≤ sizeLine; decide, [u, v], .cons ru (.cons rv .nil), ⟨_, gT.trans hpT, rfl, _, rfl⟩⟩)
    refine laidZ Ts ps (upd H T (.tup [p.1, p.2])) { s with heap := G, toks := s.toks } I1 (by simpa using hl) n2 (fun T' m => ⟨?_, g2 T' (decide_eq_false fun q => q.1 m)⟩) ST' (by rw [upd_ne ST]; exact hS) (g2 S (decide_eq_false fun q => q.2 rfl)) (fun b o e => ?_) (fun j T' p' e1 e2 => hp (j + 1) T' p' e1 e2) hL
    · have : T' ≠ T := fun e => n1 (by rw [← e]; exact m)
      rw [upd_ne this]; exact (hT T' (List.mem_cons_of_mem _ m)).1
    · by_cases q : b ∉ Ts ∧ b ≠ S
      · rw [← g1 b (decide_eq_true q)]; exact e
      · have e : G.get? b = some o := e
        rw [g2 b (decide_eq_false q)] at e; cases e
theorem vals_refsL : ∀ cs : List Addr, Vals (cs.map V.ref) (cs.map Value.ref)
  | [] => .nil
  | _ :: r => .cons rfl (vals_refsL r)
/-- list(zip(x, y)), x and y lists -/
def tLz (K : PySem.W.Frag) (ta : TA) : TE := fun σ H Q => ta σ H fun vs H1 => ∃ a b xs ys, vs = [.ref a, .ref b] ∧ SqL K H1 a xs ∧ SqL K H1 b ys ∧
  ∀ (Ts : List Addr) (p : Addr), Ts.length = (xs.zip ys).length → Ts.Nodup → (∀ T ∈ Ts, H1 T = none) → p ∉ Ts → H1 p = none → Q (.ref p) (upd (zipH H1 Ts (xs.zip ys)) p (.lst (Ts.map V.ref)))
theorem pe_lz {e e2 : Expr} {ta : TA} {p p2 pos pos2 : Pos} (hc : X.calm = true) (hg : Gl X "list") (hm : X.mg "list" = none) (hg2 : Gl X "zip") (hm2 : X.mg "zip" = none) (ha : PA X [e, e2] ta)
    (hs : starEach [e, e2] X.env = (false, eval e X.env) :: starEach [e2] X.env := by rfl) (hpl : (backTo pos2 (starEach [e2] X.env)).any (·.1) = false := by rfl)
    (hs2 : starEach [.Call (.Name "zip" p2) [e, e2] [] pos2] X.env = (false, eval (.Call (.Name "zip" p2) [e, e2] [] pos2) X.env) :: starEach [] X.env := by rfl) :
    PE X (.Call (.Name "list" p) [.Call (.Name "zip" p2) [e, e2] [] pos2] [] pos) (tLz X.K ta) := by
  refine ⟨fun pins s σ H Q I h => ?_⟩
  refine Call_ (ld_blt I hg hm boot_list (PyProof.Rows.callWith_type1 (args_cons (Call_ (ld_blt I hg2 hm2 PyProof.Rows.boot_zip (PyProof.Rows.callWith_type1 (thn (ha.run pos2 pins s σ H _ I h) fun us s1 ⟨vs, H1, I1, r1, q1⟩ => ?_) hs hpl))) hs2) hs2 rfl))
  obtain ⟨a, b, xs, ys, ex, hqx, hqy, q⟩ := q1
  subst ex
  cases r1 with
  | cons r rr =>
    cases rr with
    | cons r' rr =>
      cases rr
      cases r
      cases r'
      obtain ⟨its, rv, p1, z1⟩ := I1.list hqx
      obtain ⟨its2, rv2, p2, z2⟩ := I1.list hqy
      have la : a < s1.heap.objs.size := p1.lt
      have lb : b < s1.heap.objs.size := p2.lt
      refine call_zip_2 p1.isList p2.isList fun h' hz hTI hTO h1 h2 hsz hk => args_nil ?_
      have hh : X.A.in1.handled = none := I1.ok.hd hc
      generalize hN : s1.heap.objs.size = N at *
      have hzl : h'.objs.size = N + 5 := hsz
      have hS : (h'.push { cls := .type "list", data := .seq #[] }).get? (N + 5) = some { cls := .type "list", data := .seq #[] } := by rw [← hzl]; exact Heap.get?_push_size _ rfl
      have kp : ∀ b o, h'.get? b = some o → (h'.push { cls := .type "list", data := .seq #[] }).get? b = some o := fun b o e => Heap.get?_push_of_some _ e
      refine callType_codes (Q₁ := fun obj s₁ => obj = .ref (N + 5) ∧ s₁ = { s1 with heap := h'.push { cls := .type "list", data := .seq #[] } }) F.called_list (F.typeCall_list_1 _) F.entry_list_init
        (code_list_new _ ⟨by rw [← hzl], rfl⟩) fun obj s₁ h₁ => ?_
      obtain ⟨rfl, rfl⟩ := h₁
      have O : ZlOk (N + 6) (N + 4) (N + 2) (N + 3) N (N + 1) a b (N + 5) := by
        have q : ∀ i : Nat, i < N → N + 5 ≠ i := fun i h e => by omega
        exact ⟨PySem.W.ktu_apart N a b la lb, ⟨by show N + 4 < N + 6; omega, by show N + 2 < N + 6; omega, by show N + 3 < N + 6; omega, by show N < N + 6; omega, by show N + 1 < N + 6; omega, by show N + 5 < N + 6; omega⟩, by show N + 5 ≠ N + 4; omega, by show N + 5 ≠ N + 2; omega, by show N + 5 ≠ N + 3; omega, by show N + 5 ≠ N; omega, by show N + 5 ≠ N + 1; omega, q a la, q b lb⟩
      have e1 := rv.length
      have e2 := rv2.length
      have hn : min its.toArray.size its2.toArray.size ≤ sizeLine := by simp only [List.size_toArray]; omega
      have kl : ∀ {l : Addr} {items : Array Value}, s1.heap.IsList l items → (h'.push { cls := .type "list", data := .seq #[] }).IsList l items := fun x => x.at fun o e => kp _ o (hk _ o e)
      refine ⟨⟨_, hS, rfl⟩, F.args_list_init_2 _ _, zl_init (s := { s1 with heap := h'.push { cls := .type "list", data := .seq #[] } }) (A := X.A.in1) O hh hn (kp _ _ hz) (kp _ _ hTI) (kp _ _ hTO) (h1.at fun o e => kp _ o e) (h2.at fun o e => kp _ o e) (kl p1.isList) (kl p2.isList) hS (by show N + 6 ≤ (h'.push _).objs.size; rw [Heap.size_push, hzl]; exact Nat.le_refl _) fun h3 acc c Ts k3 hS3 hlT P3 => ⟨rfl, ?_⟩⟩
      obtain ⟨q1, q2, q3, q4⟩ := P3
      have lz : (xs.zip ys).length = min its.toArray.size its2.toArray.size := by rw [List.length_zip, e1, e2]; simp
      have old : ∀ c o, s1.heap.get? c = some o → c < N := fun c o e => hN ▸ Heap.lt_size e
      have k4 : ∀ b o, s1.heap.get? b = some o → h3.get? b = some o := fun b o e => k3 b o (fun m => by
        have hb := old b o e
        have e' : b = N + 4 ∨ b = N + 2 ∨ b = N + 3 ∨ b = N ∨ b = N + 1 ∨ b = N + 5 := by simpa using m
        rcases e' with q | q | q | q | q | q
        · exact absurd (q ▸ hb) (Nat.not_lt.mpr (Nat.le_add_right _ _))
        · exact absurd (q ▸ hb) (Nat.not_lt.mpr (Nat.le_add_right _ _))
        · exact absurd (q ▸ hb) (Nat.not_lt.mpr (Nat.le_add_right _ _))
        · exact absurd (q ▸ hb) (Nat.lt_irrefl _)
        · exact absurd (q ▸ hb) (Nat.not_lt.mpr (Nat.le_add_right _ _))
        · exact absurd (q ▸ hb) (Nat.not_lt.mpr (Nat.le_add_right _ _))) (kp b o (hk b o e))
      have fresh : ∀ c : Addr, N ≤ c → s1.heap.get? c = none := fun c hc => by
        cases e : s1.heap.get? c with
        | none => rfl
        | some o => exact absurd (old c o e) (Nat.not_lt.mpr hc)
      have fH : ∀ c : Addr, N ≤ c → H1 c = none := fun c hc => I1.hok.fresh (hN ▸ hc)
      have hTs : ∀ T ∈ Ts, N + 6 ≤ T := q3
      have big : ∀ T ∈ Ts, N ≤ T := fun T m => Nat.le_trans (Nat.le_add_right N 6) (q3 T m)
      have nS : N + 5 ∉ Ts := fun m => by have : N + 6 ≤ N + 5 := q3 _ m; omega
      have nd : Ts.Nodup := q2.imp fun h e => Nat.ne_of_lt h e
      have hlen : (Ts.map V.ref).length ≤ sizeLine := by rw [List.length_map, hlT]; exact hn
      have I2 := laidZ (X := X) (S := N + 5) (vs := Ts.map V.ref) (h3 := h3) (tk := s1.toks) Ts (xs.zip ys) H1 s1 I1 (by rw [hlT, lz]) nd (fun T m => ⟨fH T (big T m), fresh T (big T m)⟩) nS (fH _ (Nat.le_add_right _ _)) (fresh _ (Nat.le_add_right _ _)) k4 (fun j T p hj hp => ?_)
        (fun H' => ⟨hlen, Ts.map Value.ref, c, vals_refsL Ts, by rw [← q1, Array.toArray_toList]; exact hS3⟩)
      · exact ⟨.ref (N + 5), _, I2, rfl, q Ts (N + 5) (by rw [hlT, lz]) nd (fun T m => fH T (big T m)) nS (fH _ (Nat.le_add_right _ _))⟩
      · obtain ⟨x, y, hx, hy, hpr⟩ := q4 j T hj
        obtain ⟨g1, g2⟩ := List.getElem?_zip_eq_some.mp hp
        obtain ⟨u, hu, ru⟩ := rv.get g1
        obtain ⟨u2, hu2, ru2⟩ := rv2.get g2
        have hx' : its[j]? = some x := by simpa using hx
        have hy' : its2[j]? = some y := by simpa using hy
        rw [hu] at hx'
        rw [hu2] at hy'
        cases hx'
        cases hy'
        exact ⟨_, _, hpr, ru, ru2⟩
end
inductive PR (K : PySem.W.Frag) (H : Hp) (g : GH) : List (V × V) → List (D × D) → Prop
  | nil : PR K H g [] []
  | cons {p : V × V} {d : D × D} {ps : List (V × V)} {ds : List (D × D)} : Rep K H g p.1 d.1 → Rep K H g p.2 d.2 → PR K H g ps ds → PR K H g (p :: ps) (d :: ds)
theorem PR.zip {K : PySem.W.Frag} {H : Hp} {g : GH} : ∀ {xs ys : List V} {dx dy : List D}, Reps K H g xs dx → Reps K H g ys dy → PR K H g (xs.zip ys) (dx.zip dy)
  | _, _, _, _, .nil, _ => .nil
  | _, _, _, _, .cons _ _, .nil => .nil
  | _, _, _, _, .cons a b, .cons c d => .cons a c (PR.zip b d)
theorem PR.fv {K : PySem.W.Frag} {B : List Addr} {H H' : Hp} {g g' : GH} (w : Vw K B H g) (f : Fr H g H' g') : ∀ {ps : List (V × V)} {ds : List (D × D)}, PR K (hide H B) g ps ds → PR K (hide H' B) g' ps ds
  | _, _, .nil => .nil
  | _, _, .cons a b c => .cons (a.fv w f) (b.fv w f) (PR.fv w f c)
theorem zipH_none : ∀ {Ts : List Addr} {ps : List (V × V)} {H : Hp} {p : Addr}, p ∉ Ts → H p = none → zipH H Ts ps p = none
  | [], _, _, _, _, h => h
  | _ :: _, [], _, _, _, h => h
  | T :: Ts, q :: ps, H, p, m, h => zipH_none (Ts := Ts) (ps := ps) (fun z => m (List.mem_cons_of_mem _ z)) (by rw [upd_ne (fun e => m (by rw [e]; exact List.mem_cons_self))]; exact h)
theorem zipW {K : PySem.W.Frag} {B : List Addr} {g : GH} : ∀ {Ts : List Addr} {ps : List (V × V)} {ds : List (D × D)} {H : Hp}, Vw K B H g → PR K (hide H B) g ps ds → Ts.length = ps.length → Ts.Nodup → (∀ T ∈ Ts, H T = none) →
    Vw K B (zipH H Ts ps) g ∧ Fr H g (zipH H Ts ps) g ∧ Reps K (hide (zipH H Ts ps) B) g (Ts.map V.ref) (ds.map fun p => .tup [p.1, p.2])
  | [], _, _, H, w, .nil, _, _, _ => ⟨w, Fr.refl _ _, .nil⟩
  | _ :: _, _, _, _, _, .nil, hl, _, _ => by simp at hl
  | [], _, _, _, _, .cons _ _ _, hl, _, _ => by simp at hl
  | T :: Ts, _, _, H, w, .cons (p := p) (d := d) a b c, hl, hn, hT => by
    obtain ⟨n1, n2⟩ := List.nodup_cons.mp hn
    have h1 := hT T List.mem_cons_self
    obtain ⟨f1, w1, gp⟩ := Fr.laidV (u := .tup [p.1, p.2]) h1 w
    obtain ⟨w2, f2, r2⟩ := zipW (Ts := Ts) w1 (PR.fv w f1 c) (by simpa using hl) n2 fun T' m => by
      rw [upd_ne (fun e => n1 (by rw [← e]; exact m))]; exact hT T' (List.mem_cons_of_mem _ m)
    refine ⟨w2, f1.trans f2, .cons (Rep.fv w1 f2 (.tup (by rw [hide_out (w.new h1)]; exact upd_same) (.cons (a.fv w f1) (.cons (b.fv w f1) .nil)))) r2⟩
/-- list(zip(x, y)) -/
def fLz : List D → GH → QK → Prop := fun ds g Q => match ds with
  | [d, e] => ∃ xs ys, lstOf g (.v d) xs ∧ lstOf g (.v e) ys ∧ Q (.tl (zipD xs ys)) g
  | _ => False
theorem q_lz {X : Cx} {e : Expr} {tr : TAD} {E : L2.St → XK} (h : PE X e (tLz X.K (LA X.K E tr))) : PE X e (LE X.K E (wArgs tr fLz)) := by
  refine PE.of h fun σ H Q ⟨B, ρ, g, Q0, W0, rs, rg, t, c, xc⟩ => ?_
  refine ⟨B, ρ, g, _, W0, rs, rg, t, fun ds g1 vs H1 hq rd rg1 f1 => ?_, xc⟩
  unfold fLz at hq
  dsimp only at hq
  split at hq
  · obtain ⟨xs, ys, hx, hy, hq⟩ := hq
    cases rd with
    | cons r1 r2 =>
      cases r2 with
      | cons r2 r3 =>
        cases r3
        obtain ⟨a, xv, rfl, ha, rx⟩ := lstOf.rep rg1.rg (r := .v _) r1 hx
        obtain ⟨b, yv, rfl, hb, ry⟩ := lstOf.rep rg1.rg (r := .v _) r2 hy
        refine ⟨a, b, xv, yv, rfl, .inl (.inl (of_hide ha).1), .inl (.inl (of_hide hb).1), fun Ts p hl hn hT hp hp2 => ?_⟩
        obtain ⟨w2, f2, r2⟩ := zipW rg1 (PR.zip rx ry) hl hn hT
        exact (c.after (f1.trans f2)).newL hq r2 w2 p (zipH_none hp hp2)
  · exact hq.elim
end G3
/-! G3st: x[::n] -/
namespace G3
open PySem PySem.Spec PyProof.Rows L2 HT
def stepIx (n : Int) (len : Nat) : List Nat := sliceRange (sliceBounds none none (some n) len).1 (sliceBounds none none (some n) len).2.1 (sliceBounds none none (some n) len).2.2
/-- every n-th -/
def stepL {α : Type} (n : Int) (xs : List α) : List α := (stepIx n xs.length).filterMap fun i => xs[i]?
theorem stepL_mem {α : Type} {n : Int} {xs : List α} {x : α} (h : x ∈ stepL n xs) : x ∈ xs := by
  unfold stepL at h
  obtain ⟨i, -, e⟩ := List.mem_filterMap.mp h
  exact List.mem_of_getElem? e
theorem stepIx_len {n : Int} (hn : 1 ≤ n) (len : Nat) : (stepIx n len).length ≤ len := by
  have e : sliceBounds none none (some n) len = (0, (len : Int), n) := by
    unfold sliceBounds
    simp only [Option.getD_some]
    rw [if_pos (by omega), if_pos (by omega)]
  unfold stepIx
  rw [e]
  unfold sliceRange
  rw [List.length_map, List.length_range]
  dsimp only
  rw [if_pos (by omega)]
  split
  · have := PySem.ceilDiv_le ((len : Int) - 0) n (by omega) hn
    omega
  · simp
theorem stepL_len {α : Type} {n : Int} (hn : 1 ≤ n) (xs : List α) : (stepL n xs).length ≤ xs.length :=
  Nat.le_trans (List.length_filterMap_le _ _) (stepIx_len hn _)
theorem vals_fm {xs : List V} {its : List Value} (r : Vals xs its) : ∀ ix : List Nat, Vals (ix.filterMap fun i => xs[i]?) (ix.filterMap fun i => its[i]?)
  | [] => .nil
  | i :: ix => by
    rw [List.filterMap_cons, List.filterMap_cons]
    cases e : xs[i]? with
    | none =>
      have : its[i]? = none := List.getElem?_eq_none (by rw [← r.length]; exact List.getElem?_eq_none_iff.mp e)
      rw [this]
      exact vals_fm r ix
    | some x =>
      obtain ⟨u, hu, ru⟩ := r.get e
      rw [hu]
      exact .cons ru (vals_fm r ix)
theorem reps_fm {K : PySem.W.Frag} {H : Hp} {g : GH} {vs : List V} {ds : List D} (r : Reps K H g vs ds) : ∀ ix : List Nat, Reps K H g (ix.filterMap fun i => vs[i]?) (ix.filterMap fun i => ds[i]?)
  | [] => .nil
  | i :: ix => by
    rw [List.filterMap_cons, List.filterMap_cons]
    cases e : ds[i]? with
    | none =>
      have : vs[i]? = none := List.getElem?_eq_none (by rw [r.length]; exact List.getElem?_eq_none_iff.mp e)
      rw [this]
      exact reps_fm r ix
    | some x =>
      obtain ⟨u, hu, ru⟩ := r.get e
      rw [hu]
      exact .cons ru (reps_fm r ix)
/-- x[::n], x a list -/
def tStp (K : PySem.W.Frag) (te ts : TE) : TE := fun σ H Q => te σ H fun v H1 => tPart ts σ H1 fun o H2 => ∃ a xs n, v = .ref a ∧ o = some n ∧ 1 ≤ n ∧ SqL K H2 a xs ∧ ∀ p, H2 p = none → Q (.ref p) (upd H2 p (.lst (stepL n xs)))
section
variable {X : Cx}
theorem pe_stp {e st : Expr} {te ts : TE} {p3 pos : Pos} (he : PE X e te) (hs : PE X st ts) : PE X (.Subscript e (.Slice none none (some st) p3) pos) (tStp X.K te ts) := by
  refine ⟨fun pins s σ H Q I h => ?_⟩
  refine Subscript_ (thn (he.run pins s σ H _ I h) fun v s1 ⟨x, H1, I1, r1, q1⟩ => ?_)
  have hst : PO X (some st) (tPart ts) := po_some hs
  refine wpAny_Slice (thn (po_none.run pins s1 σ H1 (fun o H2 => o = none ∧ H2 = H1) I1 ⟨rfl, rfl⟩) fun vl s2 ⟨l, H2, I2, pl, el, e2⟩ => ?_)
  subst el e2
  refine thn (po_none.run pins s2 σ H2 (fun o H3 => o = none ∧ H3 = H2) I2 ⟨rfl, rfl⟩) fun vu s3 ⟨u, H3, I3, pu, eu, e3⟩ => ?_
  subst eu e3
  refine thn (hst.run pins s3 σ H3 _ I3 q1) fun vs s4 ⟨o, H4, I4, ps, a, xs, n, ex, eo, hn, hx, q⟩ => ?_
  subst ex eo
  obtain rfl : v = Value.ref a := r1
  have I5 : L2.Inv X pins σ H4 { s4 with heap := s4.heap.push { cls := .type "slice", data := .fields #[vl, vu, vs] } } := I4.kept (t' := s4.toks) fun b ob q => Heap.get?_push_of_some _ q
  obtain ⟨its, r, ht, hz⟩ := I5.list hx
  have hlen := r.length
  show wpAny (model X.prog X.w) X.A (subscriptTail e (.Slice none none (some st) p3) (.ref a) (.ref s4.heap.objs.size)) (EP X pins σ Q) X.xe { s4 with heap := s4.heap.push { cls := .type "slice", data := .fields #[vl, vu, vs] } }
  refine tail_any (ops := [.ref a, .ref s4.heap.objs.size]) ht.isList.typeIs (PySem.slot_list_getitem.lookup) ?_ (by with_unfolding_all rfl)
  refine wpAny_getItem_list_slice ht.isList (Heap.IsSliceOf.new _ vl vu vs) pl pu ps (fun e => by cases e; omega) ?_ (by rw [List.size_toArray]; omega)
  have e1 : slicePick its.toArray none none (some n) = (stepL n its).toArray := by
    unfold slicePick stepL stepIx
    rw [List.size_toArray]
    congr 2
    funext i
    exact List.getElem?_toArray
  have hix : stepIx n xs.length = stepIx n its.length := by rw [hlen]
  have rv : Vals (stepL n xs) (stepL n its) := by
    unfold stepL
    rw [hix]
    exact vals_fm r _
  rw [e1]
  refine ⟨.ref _, _, I5.laid (t' := s4.toks) (o := .lst (stepL n xs)) (fun b ob q => Heap.get?_push_of_some _ q) (Nat.le_refl _) ?_, rfl, q _ (I5.hok.fresh (Nat.le_refl _))⟩
  exact ⟨Nat.le_trans (stepL_len hn xs) hz, _, 0, rv, Heap.get?_push_size _ rfl⟩
end
/-- x[::n], x a list -/
def wStp (ta tn : TD) : TD := fun ρ g Q W => ta ρ g (fun x g1 => tn ρ g1 (fun y g2 => ∃ xs n, lstOf g2 (.v x.fz) xs ∧ y = .v (.int n) ∧ 1 ≤ n ∧ Q (.tl (stepL n xs)) g2) W) W
theorem q_stp {X : Cx} {e : Expr} {ta tn : TD} {E : L2.St → XK} (h : PE X e (tStp X.K (LE X.K E ta) (LE X.K E tn))) : PE X e (LE X.K E (wStp ta tn)) := by
  refine PE.of h fun σ H Q ⟨B, ρ, g, Q0, W0, rs, rg, t, c, xc⟩ => ?_
  refine ⟨B, ρ, g, _, W0, rs, rg, t, fun x g1 xv H1 hq rx rg1 f1 _ => ?_, xc⟩
  refine ⟨B, ρ, g1, _, W0, rs.fv rg f1, rg1, hq, fun y g2 yv H2 hq ry rg2 f2 _ => ?_, xc.after f1⟩
  obtain ⟨xs, n, hx, ey, hn, hq⟩ := hq
  subst ey
  obtain ⟨a, vs, rfl, ha, rv⟩ := lstOf.rep rg2.rg (r := .v x.fz) (rx.fv rg1 f2) hx
  refine ⟨n, int_of ry, a, vs, n, rfl, rfl, hn, .inl (.inl (of_hide ha).1), fun p hp => ?_⟩
  refine (c.after (f1.trans f2)).newL hq ?_ rg2 p hp
  unfold stepL
  rw [rv.length]
  exact reps_fm rv _
end G3
/-! G3: the small syntax, its meaning, what checks it against the text -/
namespace G3
open PySem L2

mutual
inductive Xp where
  | var (i : Nat) | cst (d : D) | glb (x : Str) (d : D) | blt (x : Str) (n : String)
  | bin (op : Bop) (a b : Xp) | cmp (op : Cop) (a b : Xp) | cmp2 (o1 o2 : Cop) (a b c : Xp)
  | neg (a : Xp) | not (a : Xp) | and (a b : Xp) | or (a b : Xp) | ite (c a b : Xp)
  | idx (op : Iop) (a i : Xp) | slc (op : Sop) (a : Xp) (lo hi : Xo)
  | tup (es : Xl) | lst (es : Xl)
  | comp (own : List (Str × Nat)) (it : Xi) (tg : Tg) (c : Xo) (e : Xp)
  | call (x : Str) (sp : GSp) (es : Xl) | blf (f : Bfn) (es : Xl) | mth (m : Mth) (o : Xp) (es : Xl)
  | trk (a : Xp) | un (f : Ufn) (a : Xp) | lrng (es : Xl) | trng (es : Xl)
  | callv (tab : Tab) (o : Xp) (es : Xl)
  | mk (C : Str) (e : Xp) | mkAt (C : Str) (e : Xp) | atf (xs : List Str) (e : Xp)
  | dis (i : Nat) (b : Bool) | dnK | dnT
  | fld (C f : Str) (e : Xp) | mthd (C m : Str) (sp : GSp) (o : Xp) (es : Xl) | new (C : Str) (sp : GSp) (es : Xl) | clm (C m : Str) (sp : GSp) (es : Xl)
  | cmp3 (o1 o2 o3 : Cop) (a b c d : Xp)
  /-- e in x, x a written tuple of texts -/
  | ing (neg : Bool) (x : Str) (ws : List Str) (e : Xp)
  /-- max(e, default=k) -/
  | maxD (k : Int) (e : Xp)
  /-- a method of a dict by tuples -/
  | dmt (m : Dmt) (o : Xp) (es : Xl)
  /-- while the dict in a slot is locked -/
  | lckE (i : Nat) (e : Xp)
  /-- list(zip(x, y)) -/
  | lz (es : Xl)
  /-- x[::n] -/
  | stp (a n : Xp)
  /-- builtins on dicts by tuples; while some dict is locked; {(): x} -/
  | tfn (f : Tfn) (es : Xl) | lckX (e : Xp) | disE (i : Nat)
inductive Xl where
  | nil | cons (e : Xp) (r : Xl)
inductive Xo where
  | no | so (e : Xp)
inductive Xi where
  | seqL (e : Xp) | seqT (e : Xp) | rng1 (a : Xl) | rng2 (a : Xl) | enumL (a : Xl) | enumT (a : Xl) | seqA (e : Xp) | enumA (a : Xl) | zip (a : Xl) | rngD (a : Xl) | revL (a : Xl) | text (e : Xp) | keysL (e : Xp) | seqX (e : Xp)
end
def wIng (neg : Bool) (ws : List Str) (ta : TD) : TD := fun ρ g Q W => ta ρ g (fun r g1 => match r with | .v (.str z) => Q (.v (.bl (neg ^^ ws.contains z))) g1 | _ => False) W
abbrev TOD := DEnv → GH → (Option Int → GH → Prop) → XKD → Prop
def wNoPart : TOD := fun _ g Q _ => Q none g
def wPart (t : TD) : TOD := fun ρ g Q W => t ρ g (fun r g1 => match r with | .v (.int i) => Q (some i) g1 | _ => False) W
def wSlc (op : Sop) (ta : TD) (tl th : TOD) : TD := fun ρ g Q W => ta ρ g (fun x g1 => tl ρ g1 (fun lo g2 => th ρ g2 (fun hi g3 => fSl op (.v x.fz) lo hi g3 Q) W) W) W
mutual
def wE : Xp → TD
  | .var i => wVar i
  | .cst d => wC d
  | .glb _ d => wC d
  | .blt _ n => wC (.ty n)
  | .bin op a b => wBin op.f (wE a) (wE b)
  | .cmp op a b => wBin op.f (wE a) (wE b)
  | .cmp2 o1 o2 a b c => wCh o1.f o2.f (wE a) (wE b) (wE c)
  | .neg a => wUn fNeg (wE a)
  | .not a => wNot (wE a)
  | .and a b => wAnd (wE a) (wE b)
  | .or a b => wOr (wE a) (wE b)
  | .ite c a b => wIte (wE c) (wE a) (wE b)
  | .idx op a i => wBin op.f (wE a) (wE i)
  | .slc op a lo hi => wSlc op (wE a) (wO lo) (wO hi)
  | .tup es => wArgs (wL es) fun ds g Q => ds.length ≤ sizeLine ∧ Q (.v (.tup ds)) g
  | .lst es => wArgs (wL es) fun ds g Q => ds.length ≤ sizeLine ∧ Q (.tl ds) g
  | .comp own it tg c e => wComp (own.map (·.2)) (wI it) tg (wB c) (wE e)
  | .call _ sp es => wCall sp (wL es)
  | .clm _ _ sp es => wCall sp (wL es)
  | .blf f es => wArgs (wL es) f.f
  | .mth m o es => fMt m.kd m.f (wE o) (wL es)
  | .trk a => wTrk (wE a)
  | .un f a => wUn f.f (wE a)
  | .lrng es => wArgs (wL es) fLRng
  | .trng es => wArgs (wL es) fTRng
  | .callv tab o es => wCallv tab (wE o) (wL es)
  | .mk C e => wMk C (wE e)
  | .mkAt C e => wMkAt C (wE e)
  | .atf xs e => wAt xs (wE e)
  | .dis i b => wDis i b
  | .dnK => wDnK
  | .dnT => wDnT
  | .fld C f e => wFld C f (wE e)
  | .mthd C m sp o es => wMeth C m sp (wE o) (wL es)
  | .new C sp es => wNew C sp (wL es)
  | .cmp3 o1 o2 o3 a b c d => wCh3 o1.f o2.f o3.f (wE a) (wE b) (wE c) (wE d)
  | .ing neg _ ws e => wIng neg ws (wE e)
  | .maxD k e => wUn (fMaxD k) (wE e)
  | .dmt m o es => fDmt m.f (wE o) (wL es)
  | .lckE i e => wLockE i (wE e)
  | .lz es => wArgs (wL es) fLz
  | .stp a n => wStp (wE a) (wE n)
  | .tfn f es => wArgs (wL es) f.f
  | .lckX e => wLockX (wE e)
  | .disE i => wDisE i
def wL : Xl → TAD
  | .nil => wNil
  | .cons e r => wCons (wE e) (wL r)
def wO : Xo → TOD
  | .no => wNoPart
  | .so e => wPart (wE e)
/-- a comprehension's test -/
def wB : Xo → TTD
  | .no => wYes
  | .so e => wTest (wE e)
def wI : Xi → TID
  | .seqL e => wSeqL (wE e)
  | .seqT e => wSeqT (wE e)
  | .rng1 a => wRng1 (wL a)
  | .rng2 a => wRng2 (wL a)
  | .enumL a => wEnumL (wL a)
  | .enumT a => wEnumT (wL a)
  | .seqA e => wSeqA (wE e)
  | .enumA a => wEnumA (wL a)
  | .zip a => wZip (wL a)
  | .rngD a => wRngD (wL a)
  | .revL a => wRevL (wL a)
  | .text e => wText (wE e)
  | .keysL e => wKeysL (wE e)
  | .seqX e => wSeqL (wLockX (wE e))
end
/-- may stand as a test -/
def tst : Xp → Bool
  | .ite _ _ _ => false
  | .not a => tst a
  | .and a b => tst a && tst b
  | .or a b => tst a && tst b
  | _ => true

/-! ### the check against the text -/
structure Cs where
  N : List Str
  sc : Scope
  fn : Str → Bool
  /-- no exception is at hand -/
  calm : Bool := true
  /-- the classes of exceptions that are known -/
  ex : List Str := []
def visB (sc : Scope) (x : Str) : Bool := match sc.names.lookup x with | some .local | some .cell | some .free => true | _ => false
def locB (sc : Scope) (x : Str) : Bool := match sc.names.lookup x with | some .local | some .cell => true | _ => false
def glB (sc : Scope) (x : Str) : Bool := match sc.names.lookup x with | some .globalImplicit => true | _ => false
def lclB (sc : Scope) (x : Str) : Bool := match sc.names.lookup x with | some .local => true | _ => false
def nmB (x : Str) : Bool := !(x == ("__debug__" : Str)) && !(x == ("__classdict__" : Str))
def starB : Expr → Bool
  | .Starred _ _ => true
  | _ => false
def setB : Expr → Bool
  | .Set _ _ _ => true
  | _ => false
def plainB : Expr → Bool
  | .BoolOp _ _ _ | .UnaryOp .Not _ _ | .IfExp _ _ _ _ | .Compare _ _ _ _ => false
  | _ => true
def slB : Expr → Bool
  | .Slice _ _ _ _ => true
  | _ => false
def supB : Expr → Bool
  | .Call (.Name id _) [] [] _ => id == ("super" : Str)
  | _ => false
def blkCs (c : Cs) (scope : Scope) : Cs := ⟨c.N, relS scope c.sc, fun x => scope.names.lookup x == some .cell, c.calm, c.ex⟩
def chkNm (c : Cs) (i : Nat) : Expr → Bool
  | .Name x _ => decide (c.N[i]? = some x) && (locB c.sc x && (c.fn x || lclB c.sc x))
  | _ => false
def chkNms (c : Cs) : List Nat → List Expr → Bool
  | [], [] => true
  | i :: is, e :: es => chkNm c i e && chkNms c is es
  | _, _ => false
def chkTg (c : Cs) : Tg → Expr → Bool
  | .nm i, e => chkNm c i e
  | .tp is, .Tuple es _ _ => c.calm && chkNms c is es
  | .tl is, .Tuple es _ _ => c.calm && chkNms c is es
  | _, _ => false
/-- what gives pairs wants a tuple of names -/
def tupTg : Xi → Expr → Bool
  | .enumL _, .Tuple _ _ _ => true
  | .enumT _, .Tuple _ _ _ => true
  | .enumA _, .Tuple _ _ _ => true
  | .zip _, .Tuple _ _ _ => true
  | .enumL _, _ => false
  | .enumT _, _ => false
  | .enumA _, _ => false
  | .zip _, _ => false
  | _, _ => true
def ntrk : Xp → Bool
  | .trk _ => false
  | .lckE _ _ => false
  | .lckX _ => false
  | _ => true
def nlcB : Expr → Bool
  | .ListComp _ _ _ _ => false
  | _ => true
def nlck : Xp → Bool
  | .lckE _ _ => false
  | _ => true
mutual
def chkE : Cs → Xp → Expr → Bool
  | c, .var i, a => match a with | .Name x _ => decide (c.N[i]? = some x) && (visB c.sc x && nmB x) | _ => false
  | c, .cst d, a => match a, d with
    | .Constant (.int i) _ _, .int j => decide (i = j)
    | .Constant (.bool b) _ _, .bl b' => b == b'
    | .Constant .none _ _, .non => true
    | .Constant (.str x) _ _, .str y => decide (x = y)
    | _, _ => false
  | c, .glb x d, a => match a with | .Name y _ => decide (y = x) && (glB c.sc x && nmB x) | _ => false
  | c, .blt x n, a => match a with | .Name y _ => decide (y = x) && (glB c.sc x && (nmB x && !(x == ("__name__" : Str)))) | _ => false
  | c, .bin op x y, a => match a with | .BinOp l o r _ => decide (o = op.op) && (chkE c x l && chkE c y r) | _ => false
  | c, .cmp op x y, a => match a with | .Compare l [o] [r] _ => decide (o = op.op) && (!(behindInMarks o r) && (chkE c x l && chkE c y r)) | _ => false
  | c, .cmp2 o1 o2 x y z, a => match a with | .Compare l [p, q] [m, r] _ => decide (p = o1.op) && (decide (q = o2.op) && (!(lastMarks [p, q] [m, r]) && (chkE c x l && (chkE c y m && chkE c z r)))) | _ => false
  | c, .neg x, a => match a with | .UnaryOp o l _ => decide (o = .USub) && chkE c x l | _ => false
  | c, .not x, a => match a with | .UnaryOp o l _ => decide (o = .Not) && chkE c x l | _ => false
  | c, .and x y, a => match a with | .BoolOp o (l :: m :: rest) pos => decide (o = .And) && (chkE c x l && (match rest with | [] => chkE c y m | r :: rs => chkE c y (.BoolOp .And (m :: r :: rs) pos))) | _ => false
  | c, .or x y, a => match a with | .BoolOp o (l :: m :: rest) pos => decide (o = .Or) && (chkE c x l && (match rest with | [] => chkE c y m | r :: rs => chkE c y (.BoolOp .Or (m :: r :: rs) pos))) | _ => false
  | c, .ite t x y, a => match a with | .IfExp q l r _ => tst t && (chkE c t q && (chkE c x l && chkE c y r)) | _ => false
  | c, .idx op x y, a => match a with | .Subscript l r _ => !(slB r) && (chkE c x l && chkE c y r) | _ => false
  | c, .slc op x lo hi, a => match a with | .Subscript l (.Slice u v none _) _ => chkE c x l && (chkO c lo u && chkO c hi v) | _ => false
  | c, .tup es, a => match a with | .Tuple xs _ _ => chkL c es xs | _ => false
  | c, .lst es, a => match a with | .List xs _ => chkL c es xs | _ => false
  | c, .comp own it tg t e, a => match a with
    | .ListComp elt [⟨tge, iter, ifs, as⟩] scope _ => c.calm && (decide (as = 0) && (blkC c.N c.sc scope own && (tg.all.all (fun j => (own.map (·.2)).contains j) && (chkI c it iter && ((!(setB iter) && tupTg it tge) && (chkTg (blkCs c scope) tg tge && (chkB (blkCs c scope) t ifs && chkE (blkCs c scope) e elt)))))))
    | _ => false
  | c, .call x sp es, a => match a with | .Call (.Name y _) zs [] _ => c.calm && (decide (y = x) && (glB c.sc x && (nmB x && chkL c es zs))) | _ => false
  | c, .blf f es, a => match a with | .Call (.Name y _) (z :: zs) [] _ => (!f.cm || c.calm) && (f.nx.all (fun x => c.ex.contains x) && (decide (y = f.nm) && (glB c.sc y && chkL c es (z :: zs)))) | _ => false
  | c, .mth m o es, a => match a with
    | .Call (.Attribute l y ap) zs [] cp => decide (y = m.nm) && (!(supB l) && ((ap.endLine == cp.line) && (decide (zs.length < 20) && (chkE c o l && chkL c es zs))))
    | _ => false
  | c, .dmt m o es, a => match a with
    | .Call (.Attribute l y ap) zs [] cp => decide (y = m.nm) && (!(supB l) && ((ap.endLine == cp.line) && (decide (zs.length < 20) && (chkE c o l && chkL c es zs))))
    | _ => false
  | c, .lz es, a => match a with
    | .Call (.Name y _) [.Call (.Name z _) [x, w] [] _] [] _ => c.calm && (decide (y = ("list" : Str)) && (decide (z = ("zip" : Str)) && (glB c.sc y && (glB c.sc z && chkL c es [x, w]))))
    | _ => false
  | c, .stp x n, a => match a with | .Subscript l (.Slice none none (some st) _) _ => chkE c x l && chkE c n st | _ => false
  | c, .lckE _ x, a => plainB a && (nlcB a && (nlck x && chkE c x a))
  | c, .lckX x, a => plainB a && (nlcB a && chkE c x a)
  | c, .tfn f es, a => match a with | .Call (.Name y _) (z :: zs) [] _ => c.calm && (decide (y = f.nm) && (glB c.sc y && chkL c es (z :: zs))) | _ => false
  | c, .disE i, a => match a with | .Dict [some (.Tuple [] _ _)] [.Name x _] _ => decide (c.N[i]? = some x) && (visB c.sc x && nmB x) | _ => false
  | c, .trk x, a => plainB a && (ntrk x && chkE c x a)
  | c, .callv tab o es, a => match a with | .Call f (z :: zs) [] _ => c.calm && ((match f with | .Subscript _ _ _ => true | .Name _ _ => true | _ => false) && (chkE c o f && chkL c es (z :: zs))) | _ => false
  | c, .mk C e, a => match a with | .Call (.Name y _) [z] [] _ => c.calm && (decide (y = C) && ((glB c.sc C && nmB C) && (!(starB z) && chkE c e z))) | _ => false
  | c, .mkAt C e, a => match a with | .Call (.Name y _) [z] [] _ => c.calm && (decide (y = C) && ((glB c.sc C && nmB C) && (!(starB z) && chkE c e z))) | _ => false
  | c, .atf xs e, a => match a with | .Attribute l y _ => decide (y = ("at" : Str)) && (!(supB l) && (xs.all (fun x => c.ex.contains x) && chkE c e l)) | _ => false
  | c, .dis i b, a => match a with | .Dict [some (.Name x _)] [.Constant (.bool b') _ _] _ => decide (c.N[i]? = some x) && (visB c.sc x && (nmB x && b == b')) | _ => false
  | c, .dnK, a => match a with | .Dict [] [] _ => true | _ => false
  | c, .dnT, a => match a with | .Dict [] [] _ => true | _ => false
  | c, .cmp3 o1 o2 o3 x y z u, a => match a with | .Compare l [p, q, t] [m, r, v] _ => decide (p = o1.op) && (decide (q = o2.op) && (decide (t = o3.op) && (!(lastMarks [p, q, t] [m, r, v]) && (chkE c x l && (chkE c y m && (chkE c z r && chkE c u v)))))) | _ => false
  | c, .ing neg x _ e, a => match a with | .Compare l [o] [.Name y _] _ => decide (o = if neg then .NotIn else .In) && (decide (y = x) && (glB c.sc x && (nmB x && chkE c e l))) | _ => false
  | c, .maxD k e, a => match a with | .Call (.Name y _) [z] [⟨some kn, .Constant (.int i) _ _, _⟩] _ => c.calm && (decide (y = ("max" : Str)) && (decide (kn = ("default" : Str)) && (decide (i = k) && (glB c.sc ("max" : Str) && (!(starB z) && chkE c e z))))) | _ => false
  | c, .fld _ f e, a => match a with | .Attribute l y _ => decide (y = f) && (!(supB l) && chkE c e l) | _ => false
  | c, .mthd _ m _ o es, a => match a with
    | .Call (.Attribute l y ap) zs [] cp => c.calm && (decide (y = m) && (!(supB l) && ((ap.endLine == cp.line) && (decide (zs.length < 20) && (chkE c o l && chkL c es zs)))))
    | _ => false
  | c, .clm C m _ es, a => match a with
    | .Call (.Attribute (.Name y _) z ap) (z1 :: zs) [] cp => c.calm && (decide (y = C) && (decide (z = m) && ((ap.endLine == cp.line) && (decide (zs.length < 20) && (glB c.sc C && (nmB C && chkL c es (z1 :: zs)))))))
    | _ => false
  | c, .new C _ es, a => match a with | .Call (.Name y _) zs [] _ => c.calm && (decide (y = C) && (glB c.sc C && (nmB C && chkL c es zs))) | _ => false
  | c, .lrng es, a => match a with
    | .Call (.Name y _) [.Call (.Name z _) [x] [] _] [] _ => c.calm && (decide (y = ("list" : Str)) && (decide (z = ("range" : Str)) && (glB c.sc y && (glB c.sc z && chkL c es [x]))))
    | .Call (.Name y _) [.Call (.Name z _) [x, w] [] _] [] _ => c.calm && (decide (y = ("list" : Str)) && (decide (z = ("range" : Str)) && (glB c.sc y && (glB c.sc z && chkL c es [x, w]))))
    | _ => false
  | c, .trng es, a => match a with
    | .Call (.Name y _) [.Call (.Name z _) [x] [] _] [] _ => c.calm && (decide (y = ("tuple" : Str)) && (decide (z = ("range" : Str)) && (glB c.sc y && (glB c.sc z && chkL c es [x]))))
    | .Call (.Name y _) [.Call (.Name z _) [x, w] [] _] [] _ => c.calm && (decide (y = ("tuple" : Str)) && (decide (z = ("range" : Str)) && (glB c.sc y && (glB c.sc z && chkL c es [x, w]))))
    | _ => false
  | c, .un f x, a => match f.arg a with | some y => c.calm && (f.names.all (glB c.sc) && (!(starB y) && chkE c x y)) | none => false
def chkL : Cs → Xl → List Expr → Bool
  | _, .nil, a => a.isEmpty
  | c, .cons e r, a => match a with | x :: xs => !(starB x) && (chkE c e x && chkL c r xs) | _ => false
def chkO : Cs → Xo → Option Expr → Bool
  | _, .no, a => a.isNone
  | c, .so e, a => match a with | some x => chkE c e x | _ => false
def chkB : Cs → Xo → List Expr → Bool
  | _, .no, a => a.isEmpty
  | c, .so e, a => match a with | [x] => tst e && chkE c e x | _ => false
def chkI : Cs → Xi → Expr → Bool
  | c, .seqL e, a => chkE c e a
  | c, .seqT e, a => chkE c e a
  | c, .seqA e, a => chkE c e a
  | c, .rng1 es, a => match a with | .Call (.Name y _) [x] [] _ => decide (y = ("range" : Str)) && (glB c.sc y && chkL c es [x]) | _ => false
  | c, .enumL es, a => match a with | .Call (.Name y _) [x] [] _ => decide (y = ("enumerate" : Str)) && (glB c.sc y && chkL c es [x]) | _ => false
  | c, .enumT es, a => match a with | .Call (.Name y _) [x] [] _ => decide (y = ("enumerate" : Str)) && (glB c.sc y && chkL c es [x]) | _ => false
  | c, .zip es, a => match a with | .Call (.Name y _) [x, z] [] _ => decide (y = ("zip" : Str)) && (glB c.sc y && chkL c es [x, z]) | _ => false
  | c, .enumA es, a => match a with | .Call (.Name y _) [x] [] _ => decide (y = ("enumerate" : Str)) && (glB c.sc y && chkL c es [x]) | _ => false
  | c, .rngD es, a => match a with | .Call (.Name y _) [x, z, u] [] _ => decide (y = ("range" : Str)) && (glB c.sc y && chkL c es [x, z, u]) | _ => false
  | c, .text e, a => chkE c e a
  | c, .keysL e, a => chkE c e a
  | c, .seqX e, a => chkE c e a
  | c, .revL es, a => match a with | .Call (.Name y _) [x] [] _ => decide (y = ("reversed" : Str)) && (glB c.sc y && chkL c es [x]) | _ => false
  | c, .rng2 es, a => match a with | .Call (.Name y _) [x, z] [] _ => decide (y = ("range" : Str)) && (glB c.sc y && chkL c es [x, z]) | _ => false
end

/-! ### what must be known of the names -/
structure Wld where
  P : Program
  w : World
  K : PySem.W.Frag
  mg : Str → Option Value
  base : Heap
abbrev wld (X : Cx) : Wld := ⟨X.prog, X.w, X.K, X.mg, X.base⟩
def FnIn (u : Wld) (k : Nat) (x : Str) (sp : GSp) : Prop :=
  ∃ f fd ps j, j ≤ k ∧ FnG u.P u.w u.K u.mg u.base j f fd ps sp ∧ u.mg x = some (.ref f) ∧ PySem.W.keepIn u.K (.ref f) = true ∧ Binds u.K fd ps [] ∧ gaK u.K x = some f
/-- one that may be raised -/
def RzIn (u : Wld) (C : Str) : Prop := ∃ a, gaK u.K C = some a ∧ u.mg C = some (.ref a) ∧ PySem.W.excIn u.K a He.veBase "ValueError.__new__" = true ∧ PySem.W.keepIn u.K (.ref a) = true ∧ PySem.W.subIn u.K (.ref a) (.type "BaseException") = some true ∧
  PySem.W.typeIn u.K (.ref a) = some (.type "type")
/-- one that is made with a number -/
def AtIn (u : Wld) (k : Nat) (C : Str) : Prop := 2 ≤ k ∧ AtC u.P u.w u.K u.mg u.base C
/-- each def of a table -/
def TabIn (u : Wld) (k : Nat) : Tab → Prop
  | [] => True
  | (x, sp) :: r => FnIn u k x sp ∧ TabIn u k r
theorem TabIn.at_ {u : Wld} {k : Nat} : ∀ {tab : Tab}, TabIn u k tab → ∀ x sp, (x, sp) ∈ tab → FnIn u k x sp
  | [], _, _, _, h => absurd h (by simp)
  | (y, s) :: r, h, x, sp, m => by
    rcases List.mem_cons.mp m with e | m
    · cases e; exact h.1
    · exact TabIn.at_ h.2 x sp m
/-- a field of a class's instances -/
def FlIn (u : Wld) (C f : Str) : Prop := ∃ c, gaK u.K C = some c ∧ Cls u.K c ∧ NoAttr u.K c f
/-- a method of a class -/
def MtIn (u : Wld) (k : Nat) (C m : Str) (sp : GSp) : Prop := ∃ c f fd ps j, j ≤ k ∧ gaK u.K C = some c ∧ Cls u.K c ∧ Meth u.K c m f ∧ FnG u.P u.w u.K u.mg u.base j f fd ps sp ∧ Binds u.K fd ps []
/-- a class that is made with its __init__ -/
def NwIn (u : Wld) (k : Nat) (C : Str) (sp : GSp) : Prop := ∃ c f fd ps j, j + 1 ≤ k ∧ gaK u.K C = some c ∧ u.mg C = some (.ref c) ∧ Mk u.K c f ∧ FnG u.P u.w u.K u.mg u.base j f fd ps sp ∧ Binds u.K fd ps []
/-- a def of a class, called by the class's name -/
def CmIn (u : Wld) (k : Nat) (C m : Str) (sp : GSp) : Prop := ∃ c f fd ps j, j ≤ k ∧ u.mg C = some (.ref c) ∧ ClmC u.K c m f ∧ FnG u.P u.w u.K u.mg u.base j f fd ps sp ∧ Binds u.K fd ps []
def GlIn (u : Wld) (x : Str) (d : D) : Prop := ∃ z v, u.mg x = some z ∧ RelV v z ∧ ∀ H g, Rep u.K H g v d
/-- a written tuple of texts -/
def GtIn (u : Wld) (x : Str) (ws : List Str) : Prop := ∃ a, u.mg x = some (.ref a) ∧ ∀ H, SqT u.K H a (ws.map V.str)
mutual
def NdE (u : Wld) (k : Nat) : Xp → Prop
  | .var _ | .cst _ | .dis _ _ | .dnK | .dnT | .disE _ => True
  | .glb x d => GlIn u x d
  | .blt x n => bootBuiltins x = some (.type n) ∧ u.mg x = none
  | .bin _ a b | .cmp _ a b | .and a b | .or a b | .idx _ a b | .stp a b => NdE u k a ∧ NdE u k b
  | .cmp2 _ _ a b c | .ite a b c => NdE u k a ∧ NdE u k b ∧ NdE u k c
  | .neg a | .not a | .trk a | .un _ a | .maxD _ a | .lckE _ a | .lckX a => NdE u k a
  | .slc _ a lo hi => NdE u k a ∧ NdO u k lo ∧ NdO u k hi
  | .tup es | .lst es | .blf _ es | .lrng es | .trng es | .lz es | .tfn _ es => NdL u k es
  | .comp _ it _ c e => NdI u k it ∧ NdO u k c ∧ NdE u k e
  | .call x sp es => FnIn u k x sp ∧ NdL u k es
  | .mth _ o es | .dmt _ o es => NdE u k o ∧ NdL u k es
  | .callv tab o es => TabIn u k tab ∧ NdE u k o ∧ NdL u k es
  | .mk C e => RzIn u C ∧ NdE u k e
  | .mkAt C e => AtIn u k C ∧ NdE u k e
  | .atf _ e => NdE u k e
  | .fld C f e => FlIn u C f ∧ NdE u k e
  | .ing _ x ws e => GtIn u x ws ∧ NdE u k e
  | .cmp3 _ _ _ a b c d => NdE u k a ∧ NdE u k b ∧ NdE u k c ∧ NdE u k d
  | .mthd C m sp o es => MtIn u k C m sp ∧ NdE u k o ∧ NdL u k es
  | .new C sp es => NwIn u k C sp ∧ NdL u k es
  | .clm C m sp es => CmIn u k C m sp ∧ NdL u k es
def NdL (u : Wld) (k : Nat) : Xl → Prop
  | .nil => True
  | .cons e r => NdE u k e ∧ NdL u k r
def NdO (u : Wld) (k : Nat) : Xo → Prop
  | .no => True
  | .so e => NdE u k e
def NdI (u : Wld) (k : Nat) : Xi → Prop
  | .seqL e | .seqT e | .seqA e | .text e | .keysL e | .seqX e => NdE u k e
  | .rng1 a | .rng2 a | .enumL a | .enumT a | .enumA a | .zip a | .rngD a | .revL a => NdL u k a
end
def bnames : List Str := ["len", "all", "any", "abs", "min", "max", "sorted", "list", "tuple", "int", "isinstance", "str", "range", "repr", "enumerate", "set", "zip", "reversed", "dict"]
structure Amb (c : Cs) (k : Nat) (X : Cx) : Prop where
  hN : X.N = c.N
  sc : X.env.scope = c.sc
  fn : ∀ x, c.fn x = true → X.fn x = true
  nd : X.N.Nodup
  calm : c.calm = true → X.calm = true
  room : c.calm = true → Room k X.A
  un : X.A.units + 72 < cLine
  ex : ExcW X.K c.ex
  nb : ∀ x ∈ bnames, X.mg x = none
  gu : X.A.guards = some []
end G3
/-! G3: soundness of the small syntax -/
namespace G3
open PySem L2

theorem locB_ok {sc : Scope} {x : Str} (h : locB sc x = true)   : L2.Loc sc x := by
  unfold locB at h
  unfold L2.Loc
  split at h
  · rename_i q; exact .inl q
  · rename_i q; exact .inr q
  · cases h
theorem visB_ok {sc : Scope} {x : Str} (h : visB sc x = true) : L2.Vis sc x := by
  unfold visB at h
  unfold L2.Vis
  split at h
  · rename_i q; exact .inl q
  · rename_i q; exact .inr (.inl q)
  · rename_i q; exact .inr (.inr q)
  · cases h
theorem lclB_ok {sc : Scope} {x : Str} (h : lclB sc x = true) : sc.names.lookup x = some .local := by
  unfold lclB at h
  split at h
  · rename_i q; exact q
  · cases h
theorem glB_ok {X : Cx} {c : Cs} {k : Nat} {x : Str} (A : Amb c k X) (h : glB c.sc x = true) : Gl X x := by
  unfold glB at h
  show X.env.scope.names.lookup x = _
  rw [A.sc]
  split at h
  · rename_i q; exact q
  · cases h
theorem nmB_ok {x : Str} (h : nmB x = true) : (x == ("__debug__" : Str)) = false ∧ (x == ("__classdict__" : Str)) = false := by
  unfold nmB at h
  simp only [Bool.and_eq_true, Bool.not_eq_true'] at h
  exact h
theorem star_cons {e : Expr} {es : List Expr} {env : PySem.Env} (h : starB e = false) : starEach (e :: es) env = (false, eval e env) :: starEach es env := by
  cases e <;> first | rfl | cases h
theorem backTo_any {pos : Pos} : ∀ {es : List (Bool × Sem Value)}, es.any (·.1) = false → (backTo pos es).any (·.1) = false
  | [], _ => rfl
  | (b, t) :: es, h => by
    rw [List.any_cons, Bool.or_eq_false_iff] at h
    show (b || (backTo pos es).any (·.1)) = false
    rw [backTo_any h.2, Bool.or_false]
    exact h.1
theorem chkL_star {c : Cs} {env : PySem.Env} : ∀ {l : Xl} {es : List Expr}, chkL c l es = true → (starEach es env).any (·.1) = false
  | .nil, [], _ => rfl
  | .nil, _ :: _, h => by simp [chkL] at h
  | .cons e r, [], h => by simp [chkL] at h
  | .cons e r, x :: xs, h => by
    simp only [chkL, Bool.and_eq_true, Bool.not_eq_true'] at h
    rw [star_cons h.1]
    show (false || (starEach xs env).any (·.1)) = false
    rw [chkL_star h.2.2]; rfl
theorem star_len {env : PySem.Env} : ∀ {es : List Expr}, (starEach es env).length = es.length
  | [] => rfl
  | e :: es => by
    have := star_len (env := env) (es := es)
    cases e <;> (show (starEach es env).length + 1 = es.length + 1; rw [this])
theorem star_all {pos : Pos} : ∀ {es : List (Bool × Sem Value)}, es.any (·.1) = false → (backTo pos es).all (fun x => !x.1) = true
  | [], _ => rfl
  | (b, t) :: es, h => by
    rw [List.any_cons, Bool.or_eq_false_iff] at h
    show (!b && (backTo pos es).all (fun x => !x.1)) = true
    rw [star_all h.2, show b = false from h.1]; rfl
theorem pt_plain {X : Cx} {a : Expr} {t : TE} (h : PE X a t) (p : plainB a = true) : PT X a (tB t) := by
  refine pt_val h ?_
  cases a with
  | UnaryOp op x pos => cases op <;> first | (intro _; rfl) | cases p
  | BoolOp _ _ _ => cases p
  | IfExp _ _ _ _ => cases p
  | Compare _ _ _ _ => cases p
  | _ => intro _; rfl
theorem set_same {X : Cx} {a : Expr} (h : setB a = false) : ∀ x, foldedSetIterable a X.env x = pure x := by
  cases a <;> first | (intro _; rfl) | cases h
theorem ix_plain {b : Expr} (h : slB b = false) : PlainIx b := by
  intro o i
  cases b <;> first | rfl | cases h
theorem sup_base {o : Expr} {attr : Str} {env : PySem.Env} {w : Sem Value} (h : supB o = false) : attributeBase o attr env w = w := by
  unfold attributeBase
  split
  · rename_i id p pos
    have h : (id == ("super" : Str)) = false := h
    have : (id != ("super" : Str)) = true := by unfold bne; rw [h]; rfl
    rw [this]
    rfl
  · rfl
section
variable {X : Cx} {c : Cs} {k : Nat}
theorem pg_nm (A : Amb c k X) {i : Nat} {e : Expr} (h : chkNm c i e = true) : PG X e (gName i) := by
  unfold chkNm at h
  split at h
  · rename_i x p
    simp only [Bool.and_eq_true, Bool.or_eq_true, decide_eq_true_eq] at h
    obtain ⟨h1, h2, h3⟩ := h
    refine pg_name A.nd (by rw [A.hN]; exact h1) (by rw [A.sc]; exact locB_ok h2) ?_
    rcases h3 with h3 | h3
    · exact .inl (A.fn x h3)
    · exact .inr (by rw [A.sc]; exact lclB_ok h3)
  · cases h
theorem chkNm_star {i : Nat} {e : Expr} (h : chkNm c i e = true) : ∃ x p, e = .Name x p := by
  unfold chkNm at h
  split at h
  · exact ⟨_, _, rfl⟩
  · cases h
theorem pgs_nms (A : Amb c k X) : ∀ {is : List Nat} {es : List Expr}, chkNms c is es = true → PGs X es (gNames is) ∧ (assignEach es X.env).length = is.length ∧ (assignEach es X.env).findIdx? (·.1) = none
  | [], [], _ => ⟨pgs_nil, rfl, rfl⟩
  | [], _ :: _, h => by simp [chkNms] at h
  | _ :: _, [], h => by simp [chkNms] at h
  | i :: is, e :: es, h => by
    simp only [chkNms, Bool.and_eq_true] at h
    obtain ⟨h1, h2⟩ := h
    obtain ⟨q1, q2, q3⟩ := pgs_nms A h2
    have g := pg_nm A h1
    obtain ⟨x, p, rfl⟩ := chkNm_star h1
    refine ⟨pgs_cons g q1 rfl, ?_, ?_⟩
    · show (assignEach es X.env).length + 1 = _
      rw [q2]; rfl
    · show List.findIdx? _ ((false, assign (.Name x p) X.env) :: assignEach es X.env) = none
      rw [List.findIdx?_cons, q3]
      rfl
theorem pg_tg (A : Amb c k X) {tg : Tg} {e : Expr} (h : chkTg c tg e = true) : PG X e (gTg X.K tg) := by
  cases tg with
  | nm i => exact pg_nm A h
  | tp is =>
    cases e with
    | Tuple es kk pos =>
      have h := Bool.and_eq_true_iff.mp (show (c.calm && chkNms c is es) = true from h)
      obtain ⟨q1, q2, q3⟩ := pgs_nms A h.2
      exact pg_tup (A.calm h.1) q1 q2 q3
    | _ => cases h
  | tl is =>
    cases e with
    | Tuple es kk pos =>
      have h := Bool.and_eq_true_iff.mp (show (c.calm && chkNms c is es) = true from h)
      obtain ⟨q1, q2, q3⟩ := pgs_nms A h.2
      exact pg_lst (A.calm h.1) q1 q2 q3
    | _ => cases h
def Tr3 (X : Cx) (W : L2.WX) (e : Xp) (a : Expr) : Prop :=
  PE X a (LE X.K (WE W) (wE e)) ∧ (tst e = true → PT X a (LT X.K (WE W) (wTest (wE e)))) ∧ (tst e = true → (∃ op vs p, a = .BoolOp op vs p) → PW X a (LT X.K (WE W) (wTest (wE e))))
theorem tr3_plain {W : L2.WX} {e : Xp} {a : Expr} (h : PE X a (LE X.K (WE W) (wE e))) (p : plainB a = true) : Tr3 X W e a :=
  ⟨h, fun _ => q_val (pt_plain h p), fun _ ⟨_, _, _, z⟩ => by subst z; cases p⟩
theorem op_slc {W : L2.WX} {op : Sop} {ta : TD} {tl th : TOD} {r : V → Option Int → Option Int → Hp → VK → Prop} (hr : RSOk X.K (fSl op) r) {σ : L2.St} {H : Hp} {Q : VK}
    {LO : TOD → TO} (hLO : ∀ t, LO t = fun σ H Q => ∃ B ρ g Q0 W0, RepS X.K (hide H B) g σ ρ ∧ Vw X.K B H g ∧ t ρ g Q0 W0 ∧ (∀ o g' H', Q0 o g' → Vw X.K B H' g' → Fr H g H' g' → Q o H') ∧ XCont X.K B H g W0 (WE W σ))
    (h : LE X.K (WE W) (wSlc op ta tl th) σ H Q) : tSl r (LE X.K (WE W) ta) (LO tl) (LO th) σ H Q := by
  obtain ⟨B, ρ, g, Q0, W0, rs, w, t, c, xc⟩ := h
  refine ⟨B, ρ, g, _, W0, rs, w, t, fun x g1 v H1 hb rx w1 f1 _ => ?_, xc⟩
  rw [hLO]
  refine ⟨B, ρ, g1, _, W0, rs.fv w f1, w1, hb, fun lo g2 H2 hb w2 f2 => ?_, xc.after f1⟩
  rw [hLO]
  refine ⟨B, ρ, g2, _, W0, rs.fv w (f1.trans f2), w2, hb, fun hi g3 H3 hb w3 f3 => ?_, xc.after (f1.trans f2)⟩
  exact hr v (.v x.fz) lo hi B H3 g3 Q0 Q (rx.fv w1 (f2.trans f3)) w3 hb (c.after (f1.trans (f2.trans f3)))

theorem LE.imp {K : PySem.W.Frag} {E : L2.St → XK} {t : TD} {σ : L2.St} {H : Hp} {Q Q' : VK} (h : LE K E t σ H Q) (i : ∀ x H1, Q x H1 → Q' x H1) : LE K E t σ H Q' := by
  obtain ⟨B, ρ, g, Q0, W0, rs, w, t, c, xc⟩ := h
  exact ⟨B, ρ, g, Q0, W0, rs, w, t, fun d g' v H' a b c' d' e' => i _ _ (c d g' v H' a b c' d' e'), xc⟩
theorem la_nil {K : PySem.W.Frag} {E : L2.St → XK} {σ : L2.St} {H : Hp} {Q : List V → Hp → Prop} (h : LA K E wNil σ H Q) : Q [] H := by
  obtain ⟨B, ρ, g, Q0, W0, rs, w, t, c, xc⟩ := h
  exact c [] g [] H t .nil w (Fr.refl _ _)
theorem Bfn.mem : ∀ f : Bfn, f.nm ∈ bnames
  | .isi _ | .isE _ => by show ("isinstance" : Str) ∈ bnames; decide
  | .repr | .reprN | .minL | .maxL | .minA | .maxA | .len | .lenS | .lenA | .all | .any | .abs | .min2 | .max2 | .sorted | .sortedM | .sortedT | .sortedD | .list | .dictP | .dictD | .tuple | .intB | .intS | .strI => by decide
theorem Tfn.mem : ∀ f : Tfn, f.nm ∈ bnames := fun f => by cases f <;> decide
/-- a slice's part -/
def LO (K : PySem.W.Frag) (E : L2.St → XK) (t : TOD) : TO := fun σ H Q => ∃ B ρ g Q0 W0, RepS K (hide H B) g σ ρ ∧ Vw K B H g ∧ t ρ g Q0 W0 ∧ (∀ o g' H', Q0 o g' → Vw K B H' g' → Fr H g H' g' → Q o H') ∧ XCont K B H g W0 (E σ)
theorem PO.of {e : Option Expr} {t t' : TO} (h : PO X e t') (i : ∀ σ H Q, t σ H Q → t' σ H Q) : PO X e t := ⟨fun pins s σ H Q I q => h.run pins s σ H Q I (i σ H Q q)⟩
theorem q_noP {W : L2.WX} : PO X none (LO X.K (WE W) wNoPart) := PO.of po_none fun σ H Q ⟨B, ρ, g, Q0, W0, rs, w, t, c, xc⟩ => c none g H t w (Fr.refl _ _)
theorem q_soP {W : L2.WX} {e : Expr} {ta : TD} (h : PE X e (LE X.K (WE W) ta)) : PO X (some e) (LO X.K (WE W) (wPart ta)) :=
  PO.of (po_some h) fun σ H Q ⟨B, ρ, g, Q0, W0, rs, w, t, c, xc⟩ => ⟨B, ρ, g, _, W0, rs, w, t, fun x g1 v H1 hb rx w1 f1 _ => by
    match x, rx, hb with
    | .v (.int i), rx, hb => exact ⟨i, int_of rx, c _ g1 H1 hb w1 f1⟩
    | .v .non, _, hb | .v (.bl _), _, hb | .v (.str _), _, hb | .v (.ty _), _, hb | .v (.ref _), _, hb | .v (.tup _), _, hb | .v (.lst _), _, hb | .v (.rl _), _, hb | .tl _, _, hb => exact hb.elim, xc⟩
theorem q_chain {W : L2.WX} {a b d : Expr} {o1 o2 : Cop} {ta tb tc : TD} {r r' : R2} {pos : Pos} (h1 : R2Ok X.K o1.f r) (h2 : R2Ok X.K o2.f r') {σ : L2.St} {H : Hp} {Q : VK} (h : LE X.K (WE W) (wCh o1.f o2.f ta tb tc) σ H Q) :
    tChain r r' (LE X.K (WE W) ta) (LE X.K (WE W) tb) (LE X.K (WE W) tc) σ H Q := by
  obtain ⟨B, ρ, g, Q0, W0, rs, w, t, c, xc⟩ := h
  refine ⟨B, ρ, g, _, W0, rs, w, t, fun x g1 v H1 hb rx w1 f1 _ => ?_, xc⟩
  refine ⟨B, ρ, g1, _, W0, rs.fv w f1, w1, hb, fun y g2 u H2 hb ry w2 f2 _ => ?_, xc.after f1⟩
  refine h1 v u x y B H2 g2 _ _ (rx.fv w1 f2) ry w2 hb fun z g3 zv H3 hz rz w3 f3 _ => ?_
  have f23 := f2.trans f3
  match z, rz, hz with
  | .v (.bl k), rz, hz =>
    refine ⟨k, bl_of rz, ?_⟩
    cases k with
    | false => exact (c.after (f1.trans f23)).here hz (.bl false) w3
    | true =>
      refine ⟨B, ρ, g3, _, W0, rs.fv w (f1.trans f23), w3, hz, fun z' g4 zv' H4 hb rz' w4 f4 _ => ?_, xc.after (f1.trans f23)⟩
      exact h2 u zv' (.v y.fz) z' B H4 g4 Q0 Q (ry.fv w2 (f3.trans f4)) rz' w4 hb (c.after (f1.trans (f23.trans f4)))
  | .v .non, _, hb | .v (.int _), _, hb | .v (.str _), _, hb | .v (.ty _), _, hb | .v (.ref _), _, hb | .v (.tup _), _, hb | .v (.lst _), _, hb | .v (.rl _), _, hb | .tl _, _, hb => exact hb.elim
theorem Amb.hu (A : Amb c k X) : X.A.units + 65 < cLine := by have := A.un; omega
theorem blk_amb (A : Amb c k X) (s : Shared) (H : Hp) (scope : Scope) (cl : List (Str × Addr)) (C : Addr) (fp : List Addr) : Amb (blkCs c scope) k (X.blk s H scope (compEnvC scope cl C X.env) fp) :=
  ⟨A.hN, by
    show relS scope X.env.scope = relS scope c.sc
    rw [A.sc], fun x h => h, A.nd, A.calm, A.room, A.un, A.ex, A.nb, A.gu⟩
end
theorem Ufn.names_mem (f : Ufn) : ∀ n ∈ f.names, n ∈ bnames := by cases f <;> decide
theorem Ufn.arg_plain (f : Ufn) {a y : Expr} (h : f.arg a = some y) : plainB a = true := by
  cases f
  · change argS a = some y at h
    unfold argS at h
    split at h
    · rfl
    · cases h
  · change argN a = some y at h
    unfold argN at h
    split at h
    · rfl
    · cases h
  · change argR a = some y at h
    unfold argR at h
    split at h
    · rfl
    · cases h
  · change argR a = some y at h
    unfold argR at h
    split at h
    · rfl
    · cases h
  · change argR2 a = some y at h
    unfold argR2 at h
    split at h
    · rfl
    · cases h
  · change argS a = some y at h
    unfold argS at h
    split at h
    · rfl
    · cases h
  · change argN a = some y at h
    unfold argN at h
    split at h
    · rfl
    · cases h
mutual
theorem sE : ∀ (e : Xp) {X : Cx} {c : Cs} {k : Nat} {a : Expr} {W : L2.WX}, Amb c k X → Takes X W → chkE c e a = true → NdE (wld X) k e → Tr3 X W e a
  | .var i, X, c, k, a, W, A, tk, h, nd => by
    cases a with
    | Name x p =>
      simp only [chkE, Bool.and_eq_true, decide_eq_true_eq] at h
      obtain ⟨h1, h2, h3⟩ := h
      exact tr3_plain (q_var (pe_var (by rw [A.hN]; exact h1) (by rw [A.sc]; exact visB_ok h2) (nmB_ok h3).1 (nmB_ok h3).2)) rfl
    | _ => cases h
  | .cst d, X, c, k, a, W, A, tk, h, nd => by
    cases a with
    | Constant v kk p =>
      refine tr3_plain ?_ rfl
      match v, d, h with
      | .int i, .int j, h => have e := of_decide_eq_true (show decide (i = j) = true from h); subst e; exact q_c pe_int fun _ _ => .int _
      | .bool b, .bl b', h => have e := eq_of_beq (show (b == b') = true from h); subst e; exact q_c pe_bl fun _ _ => .bl _
      | .none, .non, h => exact q_c pe_non fun _ _ => .non
      | .str x, .str y, h => have e := of_decide_eq_true (show decide (x = y) = true from h); subst e; exact q_c pe_str fun _ _ => .str _
    | _ => cases h
  | .glb x d, X, c, k, a, W, A, tk, h, nd => by
    cases a with
    | Name y p =>
      simp only [chkE, Bool.and_eq_true, decide_eq_true_eq] at h
      obtain ⟨rfl, h2, h3⟩ := h
      obtain ⟨z, v, hm, r, hr⟩ := nd
      exact tr3_plain (q_c (pe_glob (glB_ok A h2) hm r (nmB_ok h3).1) hr) rfl
    | _ => cases h
  | .blt x n, X, c, k, a, W, A, tk, h, nd => by
    cases a with
    | Name y p =>
      simp only [chkE, Bool.and_eq_true, decide_eq_true_eq, Bool.not_eq_true'] at h
      obtain ⟨rfl, h2, h3, h4⟩ := h
      exact tr3_plain (q_c (pe_bltn (v := .ty n) (glB_ok A h2) nd.2 nd.1 rfl (fun e => by rw [e] at h4; simp at h4) (nmB_ok h3).1) fun _ _ => .ty n) rfl
    | _ => cases h
  | .bin op x y, X, c, k, a, W, A, tk, h, nd => by
    cases a with
    | BinOp l o r p =>
      simp only [chkE, Bool.and_eq_true, decide_eq_true_eq] at h
      obtain ⟨rfl, h1, h2⟩ := h
      obtain ⟨rr, h3, h4⟩ := op.ok X
      exact tr3_plain (PE.of (pe_op h3 (sE x A tk h1 nd.1).1 (sE y A tk h2 nd.2).1) fun σ H Q h => bin_imp h4 h) rfl
    | _ => cases h
  | .cmp op x y, X, c, k, a, W, A, tk, h, nd => by
    cases a with
    | Compare l os rs p =>
      match os, rs, h with
      | [o], [r], h =>
        simp only [chkE, Bool.and_eq_true, decide_eq_true_eq, Bool.not_eq_true'] at h
        obtain ⟨rfl, h0, h1, h2⟩ := h
        obtain ⟨rr, h3, h4⟩ := op.ok X A.hu
        have q1 := (sE x A tk h1 nd.1).1
        have q2 := (sE y A tk h2 nd.2).1
        exact ⟨PE.of (pe_cmpR h3 q1 q2 h0) fun σ H Q h => bin_imp h4 h, fun _ => PT.of (pt_cmpR h3 q1 q2 h0) fun σ H Q h => test_imp (fun σ H Q h => bin_imp h4 h) h, fun _ ⟨_, _, _, z⟩ => nomatch z⟩
      | [], _, h => simp [chkE] at h
      | _ :: _ :: _, _, h => simp [chkE] at h
      | [_], [], h => simp [chkE] at h
      | [_], _ :: _ :: _, h => simp [chkE] at h
    | _ => cases h
  | .cmp2 o1 o2 x y z, X, c, k, a, W, A, tk, h, nd => by
    simp only [chkE] at h
    split at h
    · rename_i l p q m r pos
      simp only [Bool.and_eq_true, decide_eq_true_eq, Bool.not_eq_true'] at h
      obtain ⟨rfl, rfl, h0, h1, h2, h5⟩ := h
      obtain ⟨rr, h3, h4⟩ := o1.ok X A.hu
      obtain ⟨rr', h3', h4'⟩ := o2.ok X A.hu
      have q1 := (sE x A tk h1 nd.1).1
      have q2 := (sE y A tk h2 nd.2.1).1
      have q3 := (sE z A tk h5 nd.2.2).1
      exact ⟨PE.of (pe_chain h3 h3' q1 q2 q3 h0) fun σ H Q h => q_chain (a := l) (b := m) (d := r) (pos := pos) h4 h4' h, fun _ => PT.of (pt_chain h3 h3' q1 q2 q3 h0) fun σ H Q h => test_imp (fun σ H Q h => q_chain (a := l) (b := m) (d := r) (pos := pos) h4 h4' h) h, fun _ ⟨_, _, _, z⟩ => nomatch z⟩
    · cases h
  | .neg x, X, c, k, a, W, A, tk, h, nd => by
    cases a with
    | UnaryOp o l p =>
      simp only [chkE, Bool.and_eq_true, decide_eq_true_eq] at h
      obtain ⟨rfl, h1⟩ := h
      exact tr3_plain (q_un ok_neg (pe_un un_neg (sE x A tk h1 nd).1)) rfl
    | _ => cases h
  | .not x, X, c, k, a, W, A, tk, h, nd => by
    cases a with
    | UnaryOp o l p =>
      simp only [chkE, Bool.and_eq_true, decide_eq_true_eq] at h
      obtain ⟨rfl, h1⟩ := h
      have q := sE x A tk h1 nd
      exact ⟨q_not (pe_not q.1), fun t => q_tNot (pt_not (q.2.1 t)), fun _ ⟨_, _, _, z⟩ => nomatch z⟩
    | _ => cases h
  | .and x y, X, c, k, a, W, A, tk, h, nd => by
    simp only [chkE] at h
    split at h
    · rename_i o l m rest pos
      simp only [Bool.and_eq_true, decide_eq_true_eq] at h
      obtain ⟨rfl, h1, h2⟩ := h
      have q := sE x A tk h1 nd.1
      cases rest with
      | nil =>
        have q' := sE y A tk h2 nd.2
        refine ⟨q_and (pe_and q.1 (pe_one q'.1)), fun t => ?_, fun t _ => ?_⟩
        · simp only [tst, Bool.and_eq_true] at t
          exact (q_wAnd (pw_and (q.2.1 t.1) (pw_and1 (q'.2.1 t.2)))).pt
        · simp only [tst, Bool.and_eq_true] at t
          exact q_wAnd (pw_and (q.2.1 t.1) (pw_and1 (q'.2.1 t.2)))
      | cons r rs =>
        have q' := sE y A tk h2 nd.2
        refine ⟨q_and (pe_and q.1 q'.1), fun t => ?_, fun t _ => ?_⟩
        · simp only [tst, Bool.and_eq_true] at t
          exact (q_wAnd (pw_and (q.2.1 t.1) (q'.2.2 t.2 ⟨_, _, _, rfl⟩))).pt
        · simp only [tst, Bool.and_eq_true] at t
          exact q_wAnd (pw_and (q.2.1 t.1) (q'.2.2 t.2 ⟨_, _, _, rfl⟩))
    · cases h
  | .or x y, X, c, k, a, W, A, tk, h, nd => by
    simp only [chkE] at h
    split at h
    · rename_i o l m rest pos
      simp only [Bool.and_eq_true, decide_eq_true_eq] at h
      obtain ⟨rfl, h1, h2⟩ := h
      have q := sE x A tk h1 nd.1
      cases rest with
      | nil =>
        have q' := sE y A tk h2 nd.2
        refine ⟨q_or (pe_or q.1 (pe_one q'.1)), fun t => ?_, fun t _ => ?_⟩
        · simp only [tst, Bool.and_eq_true] at t
          exact (q_wOr (pw_or (q.2.1 t.1) (pw_or1 (q'.2.1 t.2)))).pt
        · simp only [tst, Bool.and_eq_true] at t
          exact q_wOr (pw_or (q.2.1 t.1) (pw_or1 (q'.2.1 t.2)))
      | cons r rs =>
        have q' := sE y A tk h2 nd.2
        refine ⟨q_or (pe_or q.1 q'.1), fun t => ?_, fun t _ => ?_⟩
        · simp only [tst, Bool.and_eq_true] at t
          exact (q_wOr (pw_or (q.2.1 t.1) (q'.2.2 t.2 ⟨_, _, _, rfl⟩))).pt
        · simp only [tst, Bool.and_eq_true] at t
          exact q_wOr (pw_or (q.2.1 t.1) (q'.2.2 t.2 ⟨_, _, _, rfl⟩))
    · cases h
  | .ite t x y, X, c, k, a, W, A, tk, h, nd => by
    cases a with
    | IfExp q l r p =>
      simp only [chkE, Bool.and_eq_true] at h
      obtain ⟨h0, h1, h2, h3⟩ := h
      exact ⟨q_ite (pe_ifExp ((sE t A tk h1 nd.1).2.1 h0) (sE x A tk h2 nd.2.1).1 (sE y A tk h3 nd.2.2).1), fun t => by simp [tst] at t, fun t _ => by simp [tst] at t⟩
    | _ => cases h
  | .idx op x y, X, c, k, a, W, A, tk, h, nd => by
    cases a with
    | Subscript l r p =>
      simp only [chkE, Bool.and_eq_true, Bool.not_eq_true'] at h
      obtain ⟨h0, h1, h2⟩ := h
      obtain ⟨rr, h3, h4⟩ := op.ok X A.hu
      exact tr3_plain (PE.of (pe_ix h3 (sE x A tk h1 nd.1).1 (sE y A tk h2 nd.2).1 (ix_plain h0)) fun σ H Q h => bin_imp h4 h) rfl
    | _ => cases h
  | .slc op x lo hi, X, c, k, a, W, A, tk, h, nd => by
    simp only [chkE] at h
    split at h
    · rename_i l u v p p2
      simp only [Bool.and_eq_true] at h
      obtain ⟨h1, h2, h3⟩ := h
      obtain ⟨rr, h4, h5⟩ := op.ok X
      exact tr3_plain (PE.of (pe_slice h4 (sE x A tk h1 nd.1).1 (sO lo A tk h2 nd.2.1) (sO hi A tk h3 nd.2.2)) fun σ H Q h => op_slc h5 (fun _ => rfl) h) rfl
    · cases h
  | .tup es, X, c, k, a, W, A, tk, h, nd => by
    cases a with
    | Tuple xs kk p => exact tr3_plain (q_tup (sL es A tk h nd)) rfl
    | _ => cases h
  | .lst es, X, c, k, a, W, A, tk, h, nd => by
    cases a with
    | List xs p => exact tr3_plain (q_lst (sL es A tk h nd)) rfl
    | _ => cases h
  | .comp own it tg t e, X, c, k, a, W, A, tk, h, nd => by
    simp only [chkE] at h
    split at h
    · rename_i elt tge iter ifs as scope pos
      simp only [Bool.and_eq_true, decide_eq_true_eq, Bool.not_eq_true'] at h
      obtain ⟨h9, rfl, h1, h2, h3, ⟨h4, h8⟩, h5, h6, h7⟩ := h
      refine tr3_plain (q_comp (fun j hj => ?_) (pe_lc (A.calm h9) A.nd (sI it A tk h3 h8 nd.1) (own := own) (by rw [A.hN, A.sc]; exact blkOk_by h1) (fun s H C cl fp => ?_) (fun s H C cl fp => ?_) (fun s H C cl fp => ?_) (set_same h4))) rfl
      · have := List.all_eq_true.mp h2 j hj
        exact List.contains_iff_mem.mp this
      · exact pg_tg (blk_amb A s H scope cl C fp) h5
      · exact sB t (blk_amb A s H scope cl C fp) takes0 h6 nd.2.1
      · exact (sE e (W := fun _ _ _ _ => False) (blk_amb A s H scope cl C fp) takes0 h7 nd.2.2).1
    · cases h
  | .call x sp es, X, c, k, a, W, A, tk, h, nd => by
    simp only [chkE] at h
    split at h
    · rename_i y p zs pos
      simp only [Bool.and_eq_true, decide_eq_true_eq] at h
      obtain ⟨h9, rfl, h1, h2, h3⟩ := h
      obtain ⟨⟨f, fd, ps, j, hj, F, hm, hk, hb, _⟩, nd2⟩ := nd
      have hst := chkL_star (env := X.env) h3
      cases es with
      | nil =>
        cases zs with
        | nil => exact tr3_plain (q_call0 F A.gu ((A.room h9).mono hj) (glB_ok A h1) hm hk hb tk (nmB_ok h2).1) rfl
        | cons z zs => simp [chkL] at h3
      | cons e1 r1 =>
        obtain ⟨z, zs, rfl⟩ : ∃ z zs', zs = z :: zs' := by
          cases zs with
          | nil => simp [chkL] at h3
          | cons z zs => exact ⟨z, zs, rfl⟩
        have h3' := h3
        simp only [chkL, Bool.and_eq_true, Bool.not_eq_true'] at h3'
        exact tr3_plain (q_call F A.gu ((A.room h9).mono hj) (glB_ok A h1) hm hk hb tk (sL _ A tk h3 nd2) (nmB_ok h2).1 (star_cons h3'.1) (backTo_any (chkL_star h3'.2.2))) rfl
    · cases h
  | .blf f es, X, c, k, a, W, A, tk, h, nd => by
    simp only [chkE] at h
    split at h
    · rename_i y p z zs pos
      simp only [Bool.and_eq_true, Bool.or_eq_true, Bool.not_eq_true', List.all_eq_true, decide_eq_true_eq] at h
      obtain ⟨h8, h9, rfl, h1, h3⟩ := h
      obtain ⟨r, hr, ho⟩ := f.ok X (fun z => A.calm (h8.resolve_left (by rw [z]; simp))) A.gu (by have := A.un; omega) (A.ex.sub fun x hx => List.contains_iff_mem.mp (h9 x hx))
      cases es with
      | nil => simp [chkL] at h3
      | cons e1 r1 =>
        have h3' := h3
        simp only [chkL, Bool.and_eq_true, Bool.not_eq_true'] at h3'
        have hn : X.mg f.nm = none := A.nb _ f.mem
        refine tr3_plain (q_args ho ?_) rfl
        have hb := f.boot
        rcases f.kind with ⟨id, e⟩ | ⟨T, e⟩
        · rw [e] at hr hb
          exact pe_callB hr (glB_ok A h1) hn hb (sL _ A tk h3 nd) f.nm_ok.1 f.nm_ok.2 (star_cons h3'.1) (backTo_any (chkL_star h3'.2.2))
        · rw [e] at hr hb
          exact pe_callTy hr (glB_ok A h1) hn hb (sL _ A tk h3 nd) f.nm_ok.1 f.nm_ok.2 (star_cons h3'.1) (backTo_any (chkL_star h3'.2.2))
    · cases h
  | .mth m o es, X, c, k, a, W, A, tk, h, nd => by
    simp only [chkE] at h
    split at h
    · rename_i l y ap zs cp
      simp only [Bool.and_eq_true, decide_eq_true_eq, Bool.not_eq_true'] at h
      obtain ⟨rfl, h1, h2, h3, h4, h5⟩ := h
      obtain ⟨r, hr, ho⟩ := m.ok X A.hu
      have q1 := (sE o A tk h4 nd.1).1
      have q2 := sL es A tk h5 nd.2
      refine tr3_plain (PE.of (t' := tBM X.K m.kd r (LE X.K (WE W) (wE o)) (LA X.K (WE W) (wL es))) ?_ fun σ H Q h => mt_imp ho h) rfl
      cases zs with
      | nil =>
        cases es with
        | cons e1 r1 => simp [chkL] at h5
        | nil => exact PE.of (pe_bm0 m.pa m.slot m.ty hr q1 (sup_base h1) h2) fun σ H Q h => LE.imp h fun x H1 q => ⟨q.1, la_nil q.2⟩
      | cons z zs =>
        have hs := chkL_star (env := X.env) h5
        cases es with
        | nil => simp [chkL] at h5
        | cons e1 r1 =>
          have h5' := h5
          simp only [chkL, Bool.and_eq_true, Bool.not_eq_true'] at h5'
          refine pe_bm m.pa m.slot m.ty hr q1 q2 (sup_base h1) ?_ h2 (star_cons h5'.1) (backTo_any (chkL_star h5'.2.2))
          rw [star_all hs]
          simp only [keywordEach, backToKw, List.map_nil, List.all_nil, Bool.true_and, List.length_nil, List.isEmpty_nil, if_true, Nat.add_zero, decide_eq_true_eq]
          exact Nat.lt_trans h3 (by decide)
    · cases h
  | .dmt m o es, X, c, k, a, W, A, tk, h, nd => by
    simp only [chkE] at h
    split at h
    · rename_i l y ap zs cp
      simp only [Bool.and_eq_true, decide_eq_true_eq, Bool.not_eq_true'] at h
      obtain ⟨rfl, h1, h2, h3, h4, h5⟩ := h
      obtain ⟨r, hr, ho⟩ := m.ok X A.hu
      have q1 := (sE o A tk h4 nd.1).1
      have q2 := sL es A tk h5 nd.2
      refine tr3_plain (PE.of (t' := tBM X.K "dict" r (LE X.K (WE W) (wE o)) (LA X.K (WE W) (wL es))) ?_ fun σ H Q h => dmt_imp ho h) rfl
      cases zs with
      | nil =>
        cases es with
        | cons e1 r1 => simp [chkL] at h5
        | nil => exact PE.of (pe_bm0 PySem.F.plainAttrs_dict m.slot m.ty hr q1 (sup_base h1) h2) fun σ H Q h => LE.imp h fun x H1 q => ⟨q.1, la_nil q.2⟩
      | cons z zs =>
        have hs := chkL_star (env := X.env) h5
        cases es with
        | nil => simp [chkL] at h5
        | cons e1 r1 =>
          have h5' := h5
          simp only [chkL, Bool.and_eq_true, Bool.not_eq_true'] at h5'
          refine pe_bm PySem.F.plainAttrs_dict m.slot m.ty hr q1 q2 (sup_base h1) ?_ h2 (star_cons h5'.1) (backTo_any (chkL_star h5'.2.2))
          rw [star_all hs]
          simp only [keywordEach, backToKw, List.map_nil, List.all_nil, Bool.true_and, List.length_nil, List.isEmpty_nil, if_true, Nat.add_zero, decide_eq_true_eq]
          exact Nat.lt_trans h3 (by decide)
    · cases h
  | .lckE i e, X, c, k, a, W, A, tk, h, nd => by
    simp only [chkE, Bool.and_eq_true] at h
    obtain ⟨h1, h0, h2, h3⟩ := h
    exact tr3_plain (q_lockE (sE e A tk h3 nd).1) h1
  | .lckX e, X, c, k, a, W, A, tk, h, nd => by
    simp only [chkE, Bool.and_eq_true] at h
    obtain ⟨h1, h0, h3⟩ := h
    exact tr3_plain (q_lockX (sE e A tk h3 nd).1) h1
  | .disE i, X, c, k, a, W, A, tk, h, nd => by
    simp only [chkE] at h
    split at h
    · simp only [Bool.and_eq_true, decide_eq_true_eq] at h
      obtain ⟨h1, h2, h3⟩ := h
      exact tr3_plain (q_disE (by have := A.un; omega) (pe_var (by rw [A.hN]; exact h1) (by rw [A.sc]; exact visB_ok h2) (nmB_ok h3).1 (nmB_ok h3).2)) rfl
    · cases h
  | .tfn f es, X, c, k, a, W, A, tk, h, nd => by
    simp only [chkE] at h
    split at h
    · rename_i y p z zs pos
      simp only [Bool.and_eq_true, decide_eq_true_eq] at h
      obtain ⟨h9, rfl, h1, h3⟩ := h
      obtain ⟨r, hr, ho⟩ := f.ok X (A.calm h9) A.gu (by have := A.un; omega)
      cases es with
      | nil => simp [chkL] at h3
      | cons e1 r1 =>
        have h3' := h3
        simp only [chkL, Bool.and_eq_true, Bool.not_eq_true'] at h3'
        have hn : X.mg f.nm = none := A.nb _ f.mem
        refine tr3_plain (q_args ho ?_) rfl
        have hb := f.boot
        rcases f.kind with ⟨id, e⟩ | ⟨T, e⟩
        · rw [e] at hr hb
          exact pe_callB hr (glB_ok A h1) hn hb (sL _ A tk h3 nd) f.nm_ok.1 f.nm_ok.2 (star_cons h3'.1) (backTo_any (chkL_star h3'.2.2))
        · rw [e] at hr hb
          exact pe_callTy hr (glB_ok A h1) hn hb (sL _ A tk h3 nd) f.nm_ok.1 f.nm_ok.2 (star_cons h3'.1) (backTo_any (chkL_star h3'.2.2))
    · cases h
  | .callv tab o es, X, c, k, a, W, A, tk, h, nd => by
    simp only [chkE] at h
    split at h
    · rename_i f z zs pos
      simp only [Bool.and_eq_true] at h
      obtain ⟨h1, h2, h3, h4⟩ := h
      cases es with
      | nil => simp [chkL] at h4
      | cons e1 r1 =>
        have h4' := h4
        simp only [chkL, Bool.and_eq_true, Bool.not_eq_true'] at h4'
        refine tr3_plain (q_callv (fun x sp hx => ?_) A.gu (A.room h1) tk (sE o A tk h3 nd.2.1).1 (sL _ A tk h4 nd.2.2) ?_ (star_cons h4'.1) (backTo_any (chkL_star h4'.2.2))) rfl
        · obtain ⟨f, fd, ps, j, hj, F, hm, hk, hb, hg⟩ := TabIn.at_ nd.1 x sp hx
          exact ⟨f, fd, ps, j, hj, F, hg, hk, hb⟩
        · cases f <;> first | (intro _; rfl) | cases h2
    · cases h
  | .mk C e, X, c, k, a, W, A, tk, h, nd => by
    simp only [chkE] at h
    split at h
    · simp only [Bool.and_eq_true, decide_eq_true_eq, Bool.not_eq_true'] at h
      obtain ⟨h1, rfl, ⟨h2, h3⟩, h4, h5⟩ := h
      obtain ⟨⟨a, n1, n2, n3, n4, n5, n6⟩, n7⟩ := nd
      exact tr3_plain (q_mk (glB_ok A h2) n2 n1 n3 n4 n5 n6 (nmB_ok h3).1 (sE e A tk h5 n7).1 (star_cons h4)) rfl
    · cases h
  | .mkAt C e, X, c, k, a, W, A, tk, h, nd => by
    simp only [chkE] at h
    split at h
    · simp only [Bool.and_eq_true, decide_eq_true_eq, Bool.not_eq_true'] at h
      obtain ⟨h1, rfl, ⟨h2, h3⟩, h4, h5⟩ := h
      obtain ⟨⟨hk, n1⟩, n7⟩ := nd
      obtain ⟨k, rfl⟩ : ∃ j, k = j + 2 := ⟨k - 2, by omega⟩
      exact tr3_plain (q_mkAt (A.room h1) (glB_ok A h2) n1 tk (nmB_ok h3).1 (sE e A tk h5 n7).1 (star_cons h4)) rfl
    · cases h
  | .atf xs e, X, c, k, a, W, A, tk, h, nd => by
    simp only [chkE] at h
    split at h
    · simp only [Bool.and_eq_true, decide_eq_true_eq, Bool.not_eq_true', List.all_eq_true] at h
      obtain ⟨rfl, h2, h3, h4⟩ := h
      exact tr3_plain (q_at (A.ex.sub fun x hx => List.contains_iff_mem.mp (h3 x hx)) (sE e A tk h4 nd).1 (sup_base h2)) rfl
    · cases h
  | .dis i b, X, c, k, a, W, A, tk, h, nd => by
    simp only [chkE] at h
    split at h
    · simp only [Bool.and_eq_true, decide_eq_true_eq, beq_iff_eq] at h
      obtain ⟨h1, h2, h3, rfl⟩ := h
      exact tr3_plain (q_dis (pe_var (by rw [A.hN]; exact h1) (by rw [A.sc]; exact visB_ok h2) (nmB_ok h3).1 (nmB_ok h3).2) pe_bl) rfl
    · cases h
  | .dnK, X, c, k, a, W, A, tk, h, nd => by
    simp only [chkE] at h
    split at h
    · exact tr3_plain q_dnK rfl
    · cases h
  | .dnT, X, c, k, a, W, A, tk, h, nd => by
    simp only [chkE] at h
    split at h
    · exact tr3_plain q_dnT rfl
    · cases h
  | .cmp3 o1 o2 o3 x y z u, X, c, k, a, W, A, tk, h, nd => by
    simp only [chkE] at h
    split at h
    · rename_i l p q t m r v pos
      simp only [Bool.and_eq_true, decide_eq_true_eq, Bool.not_eq_true'] at h
      obtain ⟨rfl, rfl, rfl, h0, h1, h2, h5, h6⟩ := h
      obtain ⟨rr, h3, h4⟩ := o1.ok X A.hu
      obtain ⟨rr', h3', h4'⟩ := o2.ok X A.hu
      obtain ⟨rr'', h3'', h4''⟩ := o3.ok X A.hu
      have q1 := (sE x A tk h1 nd.1).1
      have q2 := (sE y A tk h2 nd.2.1).1
      have q3 := (sE z A tk h5 nd.2.2.1).1
      have q4 := (sE u A tk h6 nd.2.2.2).1
      exact ⟨PE.of (pe_chain3 h3 h3' h3'' q1 q2 q3 q4 h0) fun σ H Q h => q_chain3 (a := l) (b := m) (d := r) (e := v) h4 h4' h4'' h, fun _ => PT.of (pt_chain3 h3 h3' h3'' q1 q2 q3 q4 h0) fun σ H Q h => test_imp (fun σ H Q h => q_chain3 (a := l) (b := m) (d := r) (e := v) h4 h4' h4'' h) h, fun _ ⟨_, _, _, z⟩ => nomatch z⟩
    · cases h
  | .fld C f e, X, c, k, a, W, A, tk, h, nd => by
    simp only [chkE] at h
    split at h
    · simp only [Bool.and_eq_true, decide_eq_true_eq, Bool.not_eq_true'] at h
      obtain ⟨rfl, h2, h3⟩ := h
      obtain ⟨⟨z, n1, n2, n3⟩, n4⟩ := nd
      exact tr3_plain (q_fld n1 n2 n3 (sE e A tk h3 n4).1 (sup_base h2)) rfl
    · cases h
  | .mthd C m sp o es, X, c, k, a, W, A, tk, h, nd => by
    simp only [chkE] at h
    split at h
    · rename_i l y ap zs cp
      simp only [Bool.and_eq_true, decide_eq_true_eq, Bool.not_eq_true'] at h
      obtain ⟨h9, rfl, h1, h2, h3, h4, h5⟩ := h
      obtain ⟨⟨z, f, fd, ps, j, hj, n1, n2, n3, F, hb⟩, n4, n5⟩ := nd
      have q1 := (sE o A tk h4 n4).1
      have q2 := sL es A tk h5 n5
      refine tr3_plain ?_ rfl
      cases zs with
      | nil =>
        cases es with
        | cons e1 r1 => simp [chkL] at h5
        | nil => exact q_meth0 F A.gu ((A.room h9).mono hj) n1 n2 n3 hb tk q1 (sup_base h1) h2
      | cons z zs =>
        have hs := chkL_star (env := X.env) h5
        cases es with
        | nil => simp [chkL] at h5
        | cons e1 r1 =>
          have h5' := h5
          simp only [chkL, Bool.and_eq_true, Bool.not_eq_true'] at h5'
          refine q_meth F A.gu ((A.room h9).mono hj) n1 n2 n3 hb tk q1 q2 (sup_base h1) ?_ h2 (star_cons h5'.1) (backTo_any (chkL_star h5'.2.2))
          unfold methodCallForm
          rw [star_all hs]
          simp only [keywordEach, backToKw, List.map_nil, List.all_nil, Bool.true_and, List.length_nil, List.isEmpty_nil, if_true, Nat.add_zero, decide_eq_true_eq]
          exact Nat.lt_trans h3 (by decide)
    · cases h
  | .clm C m sp es, X, c, k, a, W, A, tk, h, nd => by
    simp only [chkE] at h
    split at h
    · rename_i y yp z ap z1 zs cp
      simp only [Bool.and_eq_true, decide_eq_true_eq] at h
      obtain ⟨h9, rfl, rfl, h1, h4, h5, h2, h3⟩ := h
      obtain ⟨⟨c', f, fd, ps, j, hj, hm, U, F, hb⟩, nd2⟩ := nd
      cases es with
      | nil => simp [chkL] at h3
      | cons e1 r1 =>
        have h3' := h3
        simp only [chkL, Bool.and_eq_true, Bool.not_eq_true'] at h3'
        refine tr3_plain (q_clm F A.gu ((A.room h9).mono hj) (glB_ok A h5) hm U hb tk (sL _ A tk h3 nd2) (nmB_ok h2).1 h1 rfl ?_ (star_cons h3'.1) (backTo_any (chkL_star h3'.2.2))) rfl
        unfold methodCallForm
        rw [star_all (chkL_star (env := X.env) h3)]
        simp only [keywordEach, backToKw, List.map_nil, List.all_nil, Bool.true_and, List.length_nil, List.isEmpty_nil, if_true, Nat.add_zero, decide_eq_true_eq, List.length_cons]
        omega
    · cases h
  | .maxD j e, X, c, k, a, W, A, tk, h, nd => by
    simp only [chkE] at h
    split at h
    · rename_i y p1 z kn i kk cp kp pos
      simp only [Bool.and_eq_true, decide_eq_true_eq, Bool.not_eq_true'] at h
      obtain ⟨h9, rfl, rfl, rfl, h1, h2, h3⟩ := h
      exact tr3_plain (q_maxD (A.calm h9) (glB_ok A h1) (A.nb _ (by decide)) (sE e A tk h3 nd).1 (star_cons h2) rfl rfl) rfl
    · cases h
  | .ing neg x ws e, X, c, k, a, W, A, tk, h, nd => by
    simp only [chkE] at h
    split at h
    · rename_i l o y p pos
      simp only [Bool.and_eq_true, decide_eq_true_eq] at h
      obtain ⟨rfl, rfl, h1, h2, h3⟩ := h
      obtain ⟨⟨z, n1, n2⟩, n3⟩ := nd
      have q1 := (sE e A tk h3 n3).1
      have q2 : PE X (.Name y p) (tC (.ref z)) := pe_glob (glB_ok A h1) n1 rfl (nmB_ok h2).1
      have go : ∀ {ta : TD} {op : CmpOp} {r : R2} {σ : L2.St} {H : Hp} {Q : VK}, (∀ (i : Str) H (Q : VK), Q (.bl (neg ^^ ws.contains i)) H → r (.str i) (.ref z) H Q) → LE X.K (WE W) (wIng neg ws ta) σ H Q → tOp r (LE X.K (WE W) ta) (tC (.ref z)) σ H Q := by
        intro ta op r σ H Q hr ⟨B, ρ, g, Q0, W0, rs, w, t, cc, xc⟩
        refine ⟨B, ρ, g, _, W0, rs, w, t, fun r1 g1 v H1 hq rv w1 f1 _ => ?_, xc⟩
        match r1, rv, hq with
        | .v (.str i), rv, hq =>
          cases rv
          exact hr i H1 Q ((cc.after f1).here hq (.bl _) w1)
      have ein' : ∀ (us : List Str) (i : Str), inV (.str i) (us.map V.str) = us.contains i := fun us i => by
        unfold inV
        rw [List.any_map]
        induction us with
        | nil => rfl
        | cons s us ih =>
          rw [List.any_cons, List.contains_cons, ih]
          congr 1
          show decide (s = i) = (i == s)
          by_cases e : s = i
          · subst e; simp
          · rw [decide_eq_false e]
            exact (beq_eq_false_iff_ne.mpr fun z => e z.symm).symm
      have ein := ein' ws
      have efl : (ws.map V.str).all flatV = true := by rw [List.all_map]; exact List.all_eq_true.mpr fun _ _ => rfl
      cases neg with
      | false =>
        have hr : ∀ (i : Str) H (Q : VK), Q (.bl (false ^^ ws.contains i)) H → rIn X.K false (.str i) (.ref z) H Q := fun i H Q q => ⟨z, _, rfl, .inr (n2 H), rfl, efl, by rw [ein]; simpa using q⟩
        exact ⟨PE.of (pe_cmpR op_in_seq q1 q2 rfl) fun σ H Q h => go (op := .In) hr h, fun _ => PT.of (pt_cmpR op_in_seq q1 q2 rfl) fun σ H Q h => test_imp (fun σ H Q h => go (op := .In) hr h) h, fun _ ⟨_, _, _, z⟩ => nomatch z⟩
      | true =>
        have hr : ∀ (i : Str) H (Q : VK), Q (.bl (true ^^ ws.contains i)) H → rIn X.K true (.str i) (.ref z) H Q := fun i H Q q => ⟨z, _, rfl, .inr (n2 H), rfl, efl, by rw [ein]; simpa using q⟩
        exact ⟨PE.of (pe_cmpR op_notIn_seq q1 q2 rfl) fun σ H Q h => go (op := .NotIn) hr h, fun _ => PT.of (pt_cmpR op_notIn_seq q1 q2 rfl) fun σ H Q h => test_imp (fun σ H Q h => go (op := .NotIn) hr h) h, fun _ ⟨_, _, _, z⟩ => nomatch z⟩
    · cases h
  | .new C sp es, X, c, k, a, W, A, tk, h, nd => by
    simp only [chkE] at h
    split at h
    · rename_i y p zs pos
      simp only [Bool.and_eq_true, decide_eq_true_eq] at h
      obtain ⟨h9, rfl, h1, h2, h3⟩ := h
      obtain ⟨⟨z, f, fd, ps, j, hj, n1, hm, M, F, hb⟩, nd2⟩ := nd
      cases es with
      | nil =>
        cases zs with
        | nil => exact tr3_plain (q_new0 M F A.gu ((A.room h9).mono hj) n1 (glB_ok A h1) hm hb tk (nmB_ok h2).1) rfl
        | cons z zs => simp [chkL] at h3
      | cons e1 r1 =>
        obtain ⟨z, zs, rfl⟩ : ∃ z zs', zs = z :: zs' := by
          cases zs with
          | nil => simp [chkL] at h3
          | cons z zs => exact ⟨z, zs, rfl⟩
        have h3' := h3
        simp only [chkL, Bool.and_eq_true, Bool.not_eq_true'] at h3'
        exact tr3_plain (q_new M F A.gu ((A.room h9).mono hj) n1 (glB_ok A h1) hm hb tk (sL _ A tk h3 nd2) (nmB_ok h2).1 (star_cons h3'.1) (backTo_any (chkL_star h3'.2.2))) rfl
    · cases h
  | .lz l, X, c, k, a, W, A, tk, h, nd => by
    simp only [chkE] at h
    split at h
    · rename_i y p z p2 x w pos2 pos
      simp only [Bool.and_eq_true, decide_eq_true_eq] at h
      obtain ⟨h0, rfl, rfl, h1, h2, h3⟩ := h
      have hs : starB x = false ∧ starB w = false := by
        cases l with
        | nil => simp [chkL] at h3
        | cons e r =>
          simp only [chkL, Bool.and_eq_true, Bool.not_eq_true'] at h3
          refine ⟨h3.1, ?_⟩
          cases r with
          | nil => simp [chkL] at h3
          | cons e2 r2 =>
            have h4 := h3.2.2
            simp only [chkL, Bool.and_eq_true, Bool.not_eq_true'] at h4
            exact h4.1
      exact tr3_plain (q_lz (pe_lz (A.calm h0) (glB_ok A h1) (A.nb _ (by decide)) (glB_ok A h2) (A.nb _ (by decide)) (sL l A tk h3 nd) (star_cons hs.1) (by rw [star_cons hs.2]; rfl))) rfl
    · cases h
  | .stp e n, X, c, k, a, W, A, tk, h, nd => by
    simp only [chkE] at h
    split at h
    · simp only [Bool.and_eq_true] at h
      exact tr3_plain (q_stp (pe_stp (sE e A tk h.1 nd.1).1 (sE n A tk h.2 nd.2).1)) rfl
    · cases h
  | .lrng l, X, c, k, a, W, A, tk, h, nd => by
    simp only [chkE] at h
    split at h
    · rename_i y p z p2 x q2 q
      simp only [Bool.and_eq_true, decide_eq_true_eq] at h
      obtain ⟨h0, rfl, rfl, h1, h2, h3⟩ := h
      have hs : starEach [x] X.env = [(false, eval x X.env)] := by
        cases l with
        | nil => simp [chkL] at h3
        | cons e r =>
          simp only [chkL, Bool.and_eq_true, Bool.not_eq_true'] at h3
          rw [star_cons h3.1]; rfl
      exact tr3_plain (q_lrng (pe_listRg (A.calm h0) (glB_ok A h1) (A.nb _ (by decide)) (prg_1A (glB_ok A h2) (A.nb _ (by decide)) (sL l A tk h3 nd) hs))) rfl
    · rename_i y p z p2 x w q2 q
      simp only [Bool.and_eq_true, decide_eq_true_eq] at h
      obtain ⟨h0, rfl, rfl, h1, h2, h3⟩ := h
      have hs : starB x = false ∧ starB w = false := by
        cases l with
        | nil => simp [chkL] at h3
        | cons e r =>
          simp only [chkL, Bool.and_eq_true, Bool.not_eq_true'] at h3
          cases r with
          | nil => simp [chkL] at h3
          | cons e2 r =>
            simp only [chkL, Bool.and_eq_true, Bool.not_eq_true'] at h3
            exact ⟨h3.1, h3.2.2.1⟩
      exact tr3_plain (q_lrng (pe_listRg (A.calm h0) (glB_ok A h1) (A.nb _ (by decide)) (prg_2A (glB_ok A h2) (A.nb _ (by decide)) (sL l A tk h3 nd) (by rw [star_cons hs.1, star_cons hs.2]; rfl) (by rw [star_cons hs.2]; rfl)))) rfl
    · cases h
  | .trng l, X, c, k, a, W, A, tk, h, nd => by
    simp only [chkE] at h
    split at h
    · rename_i y p z p2 x q2 q
      simp only [Bool.and_eq_true, decide_eq_true_eq] at h
      obtain ⟨h0, rfl, rfl, h1, h2, h3⟩ := h
      have hs : starEach [x] X.env = [(false, eval x X.env)] := by
        cases l with
        | nil => simp [chkL] at h3
        | cons e r =>
          simp only [chkL, Bool.and_eq_true, Bool.not_eq_true'] at h3
          rw [star_cons h3.1]; rfl
      exact tr3_plain (q_trng (pe_tupRg (A.calm h0) (glB_ok A h1) (A.nb _ (by decide)) (prg_1A (glB_ok A h2) (A.nb _ (by decide)) (sL l A tk h3 nd) hs))) rfl
    · rename_i y p z p2 x w q2 q
      simp only [Bool.and_eq_true, decide_eq_true_eq] at h
      obtain ⟨h0, rfl, rfl, h1, h2, h3⟩ := h
      have hs : starB x = false ∧ starB w = false := by
        cases l with
        | nil => simp [chkL] at h3
        | cons e r =>
          simp only [chkL, Bool.and_eq_true, Bool.not_eq_true'] at h3
          cases r with
          | nil => simp [chkL] at h3
          | cons e2 r =>
            simp only [chkL, Bool.and_eq_true, Bool.not_eq_true'] at h3
            exact ⟨h3.1, h3.2.2.1⟩
      exact tr3_plain (q_trng (pe_tupRg (A.calm h0) (glB_ok A h1) (A.nb _ (by decide)) (prg_2A (glB_ok A h2) (A.nb _ (by decide)) (sL l A tk h3 nd) (by rw [star_cons hs.1, star_cons hs.2]; rfl) (by rw [star_cons hs.2]; rfl)))) rfl
    · cases h
  | .un f x, X, c, k, a, W, A, tk, h, nd => by
    simp only [chkE] at h
    split at h
    · rename_i y hy
      simp only [Bool.and_eq_true, List.all_eq_true, Bool.not_eq_true'] at h
      obtain ⟨h0, h1, h2, h3⟩ := h
      obtain ⟨r, hr, ho⟩ := f.ok X A.hu
      exact tr3_plain (q_un hr (ho hy (fun n hn => ⟨glB_ok A (h1 n hn), A.nb n (f.names_mem n hn)⟩) (star_cons h2) (A.calm h0) (sE x A tk h3 nd).1)) (f.arg_plain hy)
    · cases h
  | .trk x, X, c, k, a, W, A, tk, h, nd => by
    simp only [chkE, Bool.and_eq_true] at h
    exact tr3_plain (q_trk (sE x A tk h.2.2 nd).1) h.1
theorem sL : ∀ (l : Xl) {X : Cx} {c : Cs} {k : Nat} {es : List Expr} {W : L2.WX}, Amb c k X → Takes X W → chkL c l es = true → NdL (wld X) k l → PA X es (LA X.K (WE W) (wL l))
  | .nil, X, c, k, es, W, A, tk, h, nd => by
    cases es with
    | nil => exact q_nil
    | cons _ _ => simp [chkL] at h
  | .cons e r, X, c, k, es, W, A, tk, h, nd => by
    cases es with
    | nil => simp [chkL] at h
    | cons x xs =>
      simp only [chkL, Bool.and_eq_true, Bool.not_eq_true'] at h
      exact q_cons (pa_cons (sE e A tk h.2.1 nd.1).1 (sL r A tk h.2.2 nd.2) (star_cons h.1))
theorem sO : ∀ (o : Xo) {X : Cx} {c : Cs} {k : Nat} {a : Option Expr} {W : L2.WX}, Amb c k X → Takes X W → chkO c o a = true → NdO (wld X) k o → PO X a (LO X.K (WE W) (wO o))
  | .no, X, c, k, a, W, A, tk, h, nd => by
    cases a with
    | none => exact q_noP
    | some _ => simp [chkO] at h
  | .so e, X, c, k, a, W, A, tk, h, nd => by
    cases a with
    | none => simp [chkO] at h
    | some x => exact q_soP (sE e A tk (by simpa only [chkO] using h) nd).1
theorem sB : ∀ (o : Xo) {X : Cx} {c : Cs} {k : Nat} {a : List Expr}, Amb c k X → Takes X (fun _ _ _ _ => False) → chkB c o a = true → NdO (wld X) k o → PTs X a (LT X.K E0s (wB o))
  | .no, X, c, k, a, A, tk, h, nd => by
    cases a with
    | nil => exact ⟨fun pins s σ H Q I q => pts_nil.run pins s σ H Q I (wYes_ok q)⟩
    | cons _ _ => simp [chkB] at h
  | .so e, X, c, k, a, A, tk, h, nd => by
    match a, h with
    | [x], h =>
      simp only [chkB, Bool.and_eq_true] at h
      exact pts_one ((sE e (W := fun _ _ _ _ => False) A tk h.2 nd).2.1 h.1)
    | [], h => simp [chkB] at h
    | _ :: _ :: _, h => simp [chkB] at h
theorem sI : ∀ (it : Xi) {X : Cx} {c : Cs} {k : Nat} {tg a : Expr} {W : L2.WX}, Amb c k X → Takes X W → chkI c it a = true → tupTg it tg = true → NdI (wld X) k it → PI X tg a (LI X.K (WE W) (wI it))
  | .seqL e, X, c, k, tg, a, W, A, tk, h, _, nd => q_seqL (pi_list (sE e A tk h nd).1)
  | .seqX e, X, c, k, tg, a, W, A, tk, h, _, nd => q_seqL (pi_list (q_lockX (sE e A tk h nd).1))
  | .seqT e, X, c, k, tg, a, W, A, tk, h, _, nd => q_seqT (pi_tup (sE e A tk h nd).1)
  | .text e, X, c, k, tg, a, W, A, tk, h, _, nd => q_text (pi_str (sE e A tk h nd).1)
  | .keysL e, X, c, k, tg, a, W, A, tk, h, _, nd => q_keysL (sE e A tk h nd).1
  | .seqA e, X, c, k, tg, a, W, A, tk, h, _, nd => q_seqA (pi_seqA (sE e A tk h nd).1)
  | .enumA l, X, c, k, tg, a, W, A, tk, h, ht, nd => by
    simp only [chkI] at h
    split at h
    · rename_i y p x pos
      simp only [Bool.and_eq_true, decide_eq_true_eq] at h
      obtain ⟨rfl, h1, h2⟩ := h
      have hs : starEach [x] X.env = [(false, eval x X.env)] := by
        cases l with
        | nil => simp [chkL] at h2
        | cons e r =>
          simp only [chkL, Bool.and_eq_true, Bool.not_eq_true'] at h2
          rw [star_cons h2.1]; rfl
      cases tg with
      | Tuple els kk tp => exact q_enumA (pi_enumA (glB_ok A h1) (A.nb _ (by decide)) (sL l A tk h2 nd) hs)
      | _ => cases ht
    · cases h
  | .zip l, X, c, k, tg, a, W, A, tk, h, ht, nd => by
    simp only [chkI] at h
    split at h
    · rename_i y p x z pos
      simp only [Bool.and_eq_true, decide_eq_true_eq] at h
      obtain ⟨rfl, h1, h2⟩ := h
      have hs : starB x = false ∧ starB z = false := by
        cases l with
        | nil => simp [chkL] at h2
        | cons e r =>
          simp only [chkL, Bool.and_eq_true, Bool.not_eq_true'] at h2
          cases r with
          | nil => simp [chkL] at h2
          | cons e r =>
            simp only [chkL, Bool.and_eq_true, Bool.not_eq_true'] at h2
            exact ⟨h2.1, h2.2.2.1⟩
      cases tg with
      | Tuple els kk tp => exact q_zip (pi_zipB (glB_ok A h1) (A.nb _ (by decide)) (sL l A tk h2 nd) (by rw [star_cons hs.1, star_cons hs.2]) (by rw [star_cons hs.2]; rfl))
      | _ => cases ht
    · cases h
  | .rng1 l, X, c, k, tg, a, W, A, tk, h, _, nd => by
    simp only [chkI] at h
    split at h
    · rename_i y p x pos
      simp only [Bool.and_eq_true, decide_eq_true_eq] at h
      obtain ⟨rfl, h1, h2⟩ := h
      have hs : starEach [x] X.env = [(false, eval x X.env)] := by
        cases l with
        | nil => simp [chkL] at h2
        | cons e r =>
          simp only [chkL, Bool.and_eq_true, Bool.not_eq_true'] at h2
          rw [star_cons h2.1]; rfl
      exact q_rng1 (pi_range1 (glB_ok A h1) (A.nb _ (by decide)) (sL l A tk h2 nd) hs)
    · cases h
  | .enumL l, X, c, k, tg, a, W, A, tk, h, ht, nd => by
    simp only [chkI] at h
    split at h
    · rename_i y p x pos
      simp only [Bool.and_eq_true, decide_eq_true_eq] at h
      obtain ⟨rfl, h1, h2⟩ := h
      have hs : starEach [x] X.env = [(false, eval x X.env)] := by
        cases l with
        | nil => simp [chkL] at h2
        | cons e r =>
          simp only [chkL, Bool.and_eq_true, Bool.not_eq_true'] at h2
          rw [star_cons h2.1]; rfl
      cases tg with
      | Tuple els kk tp => exact q_enumL (pi_enumA (glB_ok A h1) (A.nb _ (by decide)) (sL l A tk h2 nd) hs)
      | _ => cases ht
    · cases h
  | .enumT l, X, c, k, tg, a, W, A, tk, h, ht, nd => by
    simp only [chkI] at h
    split at h
    · rename_i y p x pos
      simp only [Bool.and_eq_true, decide_eq_true_eq] at h
      obtain ⟨rfl, h1, h2⟩ := h
      have hs : starEach [x] X.env = [(false, eval x X.env)] := by
        cases l with
        | nil => simp [chkL] at h2
        | cons e r =>
          simp only [chkL, Bool.and_eq_true, Bool.not_eq_true'] at h2
          rw [star_cons h2.1]; rfl
      cases tg with
      | Tuple els kk tp => exact q_enumT (pi_enumA (glB_ok A h1) (A.nb _ (by decide)) (sL l A tk h2 nd) hs)
      | _ => cases ht
    · cases h
  | .revL l, X, c, k, tg, a, W, A, tk, h, _, nd => by
    simp only [chkI] at h
    split at h
    · rename_i y p x pos
      simp only [Bool.and_eq_true, decide_eq_true_eq] at h
      obtain ⟨rfl, h1, h2⟩ := h
      have hs : starEach [x] X.env = [(false, eval x X.env)] := by
        cases l with
        | nil => simp [chkL] at h2
        | cons e r =>
          simp only [chkL, Bool.and_eq_true, Bool.not_eq_true'] at h2
          rw [star_cons h2.1]; rfl
      exact q_revL (pi_reversed (glB_ok A h1) (A.nb _ (by decide)) (sL l A tk h2 nd) hs)
    · cases h
  | .rngD l, X, c, k, tg, a, W, A, tk, h, _, nd => by
    simp only [chkI] at h
    split at h
    · rename_i y p x z u pos
      simp only [Bool.and_eq_true, decide_eq_true_eq] at h
      obtain ⟨rfl, h1, h2⟩ := h
      have hs : starB x = false ∧ starB z = false ∧ starB u = false := by
        cases l with
        | nil => simp [chkL] at h2
        | cons e r =>
          simp only [chkL, Bool.and_eq_true, Bool.not_eq_true'] at h2
          cases r with
          | nil => simp [chkL] at h2
          | cons e r =>
            simp only [chkL, Bool.and_eq_true, Bool.not_eq_true'] at h2
            cases r with
            | nil => simp [chkL] at h2
            | cons e r =>
              simp only [chkL, Bool.and_eq_true, Bool.not_eq_true'] at h2
              exact ⟨h2.1, h2.2.2.1, h2.2.2.2.2.1⟩
      exact q_rngD (pi_range3 (glB_ok A h1) (A.nb _ (by decide)) (sL l A tk h2 nd) (by rw [star_cons hs.1]) (by rw [star_cons hs.2.1, star_cons hs.2.2]; rfl))
    · cases h
  | .rng2 l, X, c, k, tg, a, W, A, tk, h, _, nd => by
    simp only [chkI] at h
    split at h
    · rename_i y p x z pos
      simp only [Bool.and_eq_true, decide_eq_true_eq] at h
      obtain ⟨rfl, h1, h2⟩ := h
      have hs : starB x = false ∧ starB z = false := by
        cases l with
        | nil => simp [chkL] at h2
        | cons e r =>
          simp only [chkL, Bool.and_eq_true, Bool.not_eq_true'] at h2
          cases r with
          | nil => simp [chkL] at h2
          | cons e r =>
            simp only [chkL, Bool.and_eq_true, Bool.not_eq_true'] at h2
            exact ⟨h2.1, h2.2.2.1⟩
      exact q_rng2 (pi_range2 (glB_ok A h1) (A.nb _ (by decide)) (sL l A tk h2 nd) (by rw [star_cons hs.1, star_cons hs.2]; rfl) (by rw [star_cons hs.2]; rfl))
    · cases h
end
end G3
/-! G3: statements of the small syntax -/
namespace G3
open PySem L2

mutual
inductive Sm where
  | asg (tg : Tg) (e : Xp) | put (o i e : Xp) | dput (o i e : Xp) | dputM (o i e : Xp) | par (i j : Nat) (es : Xl) | par3 (i j l : Nat) (es : Xl) | expr (e : Xp) | ifs (c : Xp) (a b : Sl) | for_ (it : Xi) (tg : Tg) (b : Sl) | whl (c : Xp) (b : Sl) | ret (e : Xp) | retN | ct
  | try_ (xs : List Str) (C : Str) (i : Option Nat) (b s : Sl) | raise (C : Str) | raiseAt (C : Str) (e : Xp) | sfld (C f : Str) (o e : Xp) | sfld2 (C f f' : Str) (o o' e : Xp)
  /-- what the walk never comes to -/
  | dead
  /-- while the dict in a slot is locked -/
  | lck (i : Nat) (s : Sm)
inductive Sl where
  | nil | cons (s : Sm) (r : Sl)
  /-- the list in a slot will not change any more (no row of the text) -/
  | frz (i : Nat) (r : Sl)
  /-- a part with a name of its own -/
  | part (b : Sl)
end
theorem wHid_ex : ∃ f : TSD → TSD, f = id := ⟨id, rfl⟩
/-- nothing but a veil: what stands behind it is not looked at -/
noncomputable def wHid : TSD → TSD := Classical.choose wHid_ex
theorem wHid_eq (t : TSD) : wHid t = t := by
  unfold wHid
  rw [Classical.choose_spec wHid_ex]; rfl
/-- a, b = e, f: two names, stored when both are there -/
def wPar (i j : Nat) (tr : TAD) : TSD := fun D ρ g => tr ρ g (fun ds g1 => match ds with | [d, e] => D.nx ((ρ.set i (some d)).set j (some e)) g1 | _ => False) (fun x g1 => D.ex x ρ g1)
/-- a, b, c = e, f, h: three names -/
def wPar3 (i j l : Nat) (tr : TAD) : TSD := fun D ρ g => tr ρ g (fun ds g1 => match ds with | [d, e, f] => D.nx (((ρ.set i (some d)).set j (some e)).set l (some f)) g1 | _ => False) (fun x g1 => D.ex x ρ g1)
def wDead : TSD := fun _ _ _ => False
mutual
noncomputable def wS : Sm → TSD
  | .dead => wDead
  | .lck i s => wLock i (wS s)
  | .asg tg e => wAsg tg (wE e)
  | .put o i e => wPut (wE o) (wE i) (wE e)
  | .dput o i e => wDput (wE o) (wE i) (wE e)
  | .dputM o i e => wDputM (wE o) (wE i) (wE e)
  | .par i j es => wPar i j (wL es)
  | .par3 i j l es => wPar3 i j l (wL es)
  | .expr e => wDrop (wE e)
  | .ifs c a b => wIf (wTest (wE c)) (wSs a) (wSs b)
  | .for_ it tg b => wFor (wI it) tg (wSs b)
  | .whl c b => wWhl (wTest (wE c)) (wSs b)
  | .ret e => wRet (wE e)
  | .retN => wRetN
  | .ct => wCt
  | .try_ xs C i b s => wTry xs C i (wSs b) (wSs s)
  | .raise C => wRaise C
  | .raiseAt C e => wRaiseAt C (wE e)
  | .sfld C f o e => wSfld C f (wE o) (wE e)
  | .sfld2 C f f' o o' e => wSfld2 C f f' (wE o) (wE o') (wE e)
noncomputable def wSs : Sl → TSD
  | .nil => wNx
  | .cons s r => wSq (wS s) (wSs r)
  | .frz i r => wFrz i (wSs r)
  | .part b => wHid (wSs b)
end
def tupB : Expr → Bool
  | .Tuple _ _ _ => true
  | _ => false
def compB : Expr → Bool
  | .ListComp _ _ _ _ | .SetComp _ _ _ _ | .DictComp _ _ _ _ _ => true
  | _ => false
/-- a display of a tuple, not just of constants -/
def dispB : Expr → Bool
  | .Tuple vs _ _ => !(vs.all (foldedForSure 8))
  | _ => false
/-- some name of the target is no plain local: a tuple is made and taken apart -/
def cellT (sc : Scope) : Expr → Bool
  | .Tuple ts _ _ => ts.any fun | .Name x _ => !(lclB sc x) | _ => false
  | _ => false
def swB (sc : Scope) (t v : Expr) : Bool := match v with
  | .ListComp _ _ s _ => (match t with
    | .Name x p => sc.kind == .function && sc.names.lookup x == some .local && p.line == v.pos.line && !(s.names.any fun (n, k) => n == x && (k == .local || k == .cell))
    | _ => false)
  | _ => false
mutual
def chkS : Cs → Sm → Stmt → Bool
  | _, .dead, _ => true
  | c, .lck _ m, s => chkS c m s
  | c, .asg tg e, s => match s with
    | .Assign [t] v _ => chkTg c tg t && (chkE c e v && (match t with
      | .Name x _ => (match v with
        | .ListComp _ _ _ _ => c.calm && (!(swB c.sc t v) || lclB c.sc x)
        | _ => !(compB v))
      | _ => (tupB t || !(compB v)) && (!(dispB v) || cellT c.sc t)))
    | _ => false
  | c, .put o i e, s => match s with | .Assign [.Subscript l r _] v _ => !(compB v) && ((!(slB r) && chkE c o l) && (chkE c i r && chkE c e v)) | _ => false
  | c, .dput o i e, s => match s with | .Assign [.Subscript l r _] v _ => !(compB v) && ((!(slB r) && chkE c o l) && (chkE c i r && chkE c e v)) | _ => false
  | c, .dputM o i e, s => match s with | .Assign [.Subscript l r _] v _ => !(compB v) && ((!(slB r) && chkE c o l) && (chkE c i r && chkE c e v)) | _ => false
  | c, .par i j es, s => match s with
    | .Assign [.Tuple [.Name x px, .Name y py] _ _] (.Tuple [a, b] _ _) _ => c.calm && ((decide (c.N[i]? = some x) && (decide (c.N[j]? = some y) && (!(i == j) && (!(x == y) && (lclB c.sc x && lclB c.sc y))))) &&
        ((px.line == py.line && (!([a, b].all (foldedForSure 8)) && !([a, b].all (constantsAlone 8)))) && (!(starB a) && (!(starB b) && chkL c es [a, b]))))
    | _ => false
  | c, .par3 i j l es, s => match s with
    | .Assign [.Tuple [.Name x px, .Name y py, .Name z pz] _ _] (.Tuple [a, b, d] _ _) _ => c.calm && ((decide (c.N[i]? = some x) && (decide (c.N[j]? = some y) && (decide (c.N[l]? = some z) && ((!(i == j) && (!(i == l) && !(j == l))) && ((!(x == y) && (!(x == z) && !(y == z))) && (lclB c.sc x && (lclB c.sc y && lclB c.sc z))))))) &&
        (((px.line == py.line) && ((px.line == pz.line) && (!([a, b, d].all (foldedForSure 8)) && !([a, b, d].all (constantsAlone 8))))) && (!(starB a) && (!(starB b) && (!(starB d) && chkL c es [a, b, d])))))
    | _ => false
  | c, .expr e, s => match s with | .Expr v _ => !(compB v) && chkE c e v | _ => false
  | c, .ifs q a b, s => match s with | .If t x y _ => tst q && (chkE c q t && (chkSs c a x && chkSs c b y)) | _ => false
  | c, .for_ it tg b, s => match s with | .For t i body [] _ => c.calm && ((!(setB i) && tupTg it t) && (chkI c it i && (chkTg c tg t && chkSs c b body))) | _ => false
  | c, .whl q b, s => match s with | .While t body [] _ => tst q && (chkE c q t && chkSs c b body) | _ => false
  | c, .ret e, s => match s with | .Return (some v) _ => chkE c e v | _ => false
  | _, .retN, s => match s with | .Return none _ => true | _ => false
  | _, .ct, s => match s with | .Continue _ => true | _ => false
  | c, .raise C, s => match s with | .Raise (some (.Call (.Name x _) [.Constant (.str _) _ _] [] _)) none _ => c.calm && (decide (x = C) && (glB c.sc C && nmB C)) | _ => false
  | c, .raiseAt C e, s => match s with | .Raise (some (.Call (.Name x _) [z] [] _)) none _ => c.calm && (decide (x = C) && ((glB c.sc C && nmB C) && (!(starB z) && chkE c e z))) | _ => false
  | c, .sfld _ f o e, s => match s with | .Assign [.Attribute l y _] v _ => decide (y = f) && (!(compB v) && (chkE c o l && chkE c e v)) | _ => false
  | c, .sfld2 _ f f' o o' e, s => match s with | .Assign [.Tuple [.Attribute l y _, .Attribute l' y' _] _ _] v _ => c.calm && (decide (y = f) && (decide (y' = f') && ((!(compB v) && !(dispB v)) && (chkE c o l && (chkE c o' l' && chkE c e v))))) | _ => false
  | c, .try_ xs C i b t, s => match s with
    | .Try body [.ExceptHandler (some (.Name x _)) n (one :: suite) _] [] [] _ => c.calm && ((decide (x = C) && (glB c.sc C && nmB C)) && (((upN :: xs).contains C && xs.all (fun y => c.ex.contains y)) && ((chkSs c b body && chkSs { c with calm := false } t (one :: suite)) &&
        (match i, n with
        | some i, some n => decide (c.N[i]? = some n) && lclB c.sc n
        | none, none => true
        | _, _ => false))))
    | _ => false
def chkSs : Cs → Sl → List Stmt → Bool
  | _, .nil, ss => ss.isEmpty
  | c, .cons s r, ss => match ss with | x :: xs => chkS c s x && chkSs c r xs | _ => false
  | c, .frz _ r, ss => chkSs c r ss
  | c, .part b, ss => chkSs c b ss
end
/-- a class by its name -/
def ClIn (u : Wld) (C : Str) : Prop := ∃ a, gaK u.K C = some a ∧ u.mg C = some (.ref a)
mutual
def NdS (u : Wld) (k : Nat) : Sm → Prop
  | .asg _ e | .expr e | .ret e => NdE u k e
  | .par _ _ es | .par3 _ _ _ es => NdL u k es
  | .put o i e | .dput o i e | .dputM o i e => NdE u k o ∧ NdE u k i ∧ NdE u k e
  | .ifs c a b => NdE u k c ∧ NdSs u k a ∧ NdSs u k b
  | .for_ it _ b => NdI u k it ∧ NdSs u k b
  | .whl c b => NdE u k c ∧ NdSs u k b
  | .retN | .ct | .dead => True
  | .lck _ m => NdS u k m
  | .try_ _ C _ b s => ClIn u C ∧ NdSs u k b ∧ NdSs u k s
  | .raise C => RzIn u C
  | .raiseAt C e => AtIn u k C ∧ NdE u k e
  | .sfld C f o e => FlIn u C f ∧ NdE u k o ∧ NdE u k e
  | .sfld2 C f f' o o' e => (FlIn u C f ∧ FlIn u C f') ∧ NdE u k o ∧ NdE u k o' ∧ NdE u k e
def NdSs (u : Wld) (k : Nat) : Sl → Prop
  | .nil => True
  | .cons s r => NdS u k s ∧ NdSs u k r
  | .frz _ r => NdSs u k r
  | .part b => NdSs u k b
end
structure AmbS (c : Cs) (k : Nat) (X : Cx) : Prop extends Amb c k X where
  po : PassesOwn (model X.prog X.w) X.A X.env X.xe
  kind : c.sc.kind = .function
  stk : X.stack = X.env :: X.outer ∧ X.env.frame = some X.env.locals

theorem sw_no {v t : Expr} {l : Nat} {env : PySem.Env} (h : compB v = false) : swapsWith v (some t) l env = pure false := by
  cases v <;> first | rfl | cases h
theorem sw_tup {v t : Expr} {l : Nat} {env : PySem.Env} (h : tupB t = true ∨ compB v = false) : swapsWith v (some t) l env = pure false := by
  rcases h with h | h
  · cases t <;> first | (cases h; done) | skip
    cases v <;> rfl
  · exact sw_no h
theorem sw_no0 {v : Expr} {l : Nat} {env : PySem.Env} (h : compB v = false) : swapsWith v none l env = pure false := by
  cases v <;> first | rfl | cases h
theorem sw_lc {elt : Expr} {gs : List Comprehension} {s : Scope} {p p' : Pos} {x : Str} {l : Nat} {env : PySem.Env} (hk : env.scope.kind = .function) :
    swapsWith (.ListComp elt gs s p) (some (.Name x p')) l env = pure (swB env.scope (.Name x p') (.ListComp elt gs s p)) := by
  have e : env.blockKind = .function := by unfold PySem.Env.blockKind; rw [hk]; rfl
  unfold swB
  show pure (env.blockKind == .function && env.kindOf x == some .local && p'.line == (Expr.ListComp elt gs s p).pos.line && !(s.names.any fun (n, k) => n == x && (k == .local || k == .cell))) = _
  rw [e, hk]
  rfl
theorem ss_no {v t : Expr} {env : PySem.Env} (h : dispB v = false) : swappedStores [t] v env = pure none := by
  unfold swappedStores
  split
  · rename_i ts vs heq
    have key : vs.all (foldedForSure 8) = true := by
      split at heq
      · cases heq
        simpa [dispB] using h
      · cases heq
        simpa [dispB] using h
      · cases heq
    simp only [key, if_true]
    split
    · rfl
    · split
      · rfl
      · split
        · rfl
        · rfl
  · rfl
theorem filterMap_lt {α β : Type} (f : α → Option β) : ∀ {l : List α}, (∃ x ∈ l, f x = none) → (l.filterMap f).length < l.length
  | [], h => by obtain ⟨x, hx, _⟩ := h; cases hx
  | a :: l, h => by
    have hle := List.length_filterMap_le f l
    cases e : f a with
    | none => rw [List.filterMap_cons_none e, List.length_cons]; omega
    | some b =>
      rw [List.filterMap_cons_some e, List.length_cons, List.length_cons]
      obtain ⟨x, hx, hn⟩ := h
      rcases List.mem_cons.mp hx with rfl | hx
      · rw [e] at hn; cases hn
      · have := filterMap_lt f ⟨x, hx, hn⟩
        omega
theorem ss_cell {v t : Expr} {env : PySem.Env} (h : cellT env.scope t = true) : swappedStores [t] v env = pure none := by
  cases t with
  | Tuple ts kk pp =>
    have h : (ts.any fun | .Name x _ => !(lclB env.scope x) | _ => false) = true := h
    obtain ⟨e, he, hn⟩ := List.any_eq_true.mp h
    obtain ⟨x, px, rfl, hx⟩ : ∃ x px, e = .Name x px ∧ lclB env.scope x = false := by
      cases e with
      | Name x px => exact ⟨x, px, rfl, by simpa using hn⟩
      | _ => cases hn
    have hk : (env.kindOf x == some .local) = false := by
      have : env.kindOf x = env.scope.names.lookup x := rfl
      rw [this]
      unfold lclB at hx
      cases e : env.scope.names.lookup x with
      | none => rfl
      | some k =>
        rw [e] at hx
        cases k <;> first | rfl | cases hx
    unfold swappedStores
    split
    · rename_i ts' vs heq
      have ets : ts' = ts := by
        split at heq
        · have q := ‹[Expr.Tuple ts kk pp] = [Expr.Tuple _ _ _]›
          cases q; cases heq; rfl
        · have q := ‹[Expr.Tuple ts kk pp] = [Expr.List _ _]›
          cases q
        · cases heq
      subst ets
      split
      · rfl
      · split
        · rfl
        · have hl := fun line : Nat => filterMap_lt (fun (e : Expr) => match e with | .Name id pos => if (env.kindOf id == some .local && pos.line == line) = true then some id else none | _ => none) (l := ts') ⟨_, he, by show (if (env.kindOf x == some .local && px.line == line) = true then some x else none) = none; rw [hk]; rfl⟩
          have hl := hl ((ts'.head?.map (·.pos.line)).getD 0)
          rw [if_pos]
          simp only [Bool.or_eq_true, bne_iff_ne, ne_eq]
          exact .inl (Nat.ne_of_lt hl)
    · rfl
  | _ => cases h
theorem ss_two {x y : Str} {px py pt pt2 : Pos} {kt k2 : Nat} {a b : Expr} {env : PySem.Env} (hk : env.scope.kind = .function) (hx : env.scope.names.lookup x = some .local) (hy : env.scope.names.lookup y = some .local) (hl : (px.line == py.line) = true)
    (hne : (x == y) = false) (ha : starB a = false) (hb : starB b = false) (hf : [a, b].all (foldedForSure 8) = false) (hc : [a, b].all (constantsAlone 8) = false) :
    swappedStores [.Tuple [.Name x px, .Name y py] kt pt] (.Tuple [a, b] k2 pt2) env = pure (some [x, y]) := by
  have e : env.blockKind = .function := by unfold PySem.Env.blockKind; rw [hk]; rfl
  have kx : env.kindOf x = some .local := hx
  have ky : env.kindOf y = some .local := hy
  have l2 : (py.line == px.line) = true := by rw [eq_of_beq hl]; simp
  have ne2 : (y == x) = false := by rw [Bool.beq_comm]; exact hne
  have ne : x ≠ y := fun z => by rw [z] at hne; simp at hne
  unfold swappedStores
  simp only [List.length_cons, List.length_nil, e, List.any_cons, List.any_nil, List.head?_cons, Option.map_some, Option.getD_some, List.filterMap_cons, List.filterMap_nil, kx, ky, l2, hf, hc]
  simp [List.eraseDups_cons, ne2, ne, Expr.pos, l2, eq_of_beq hl]
  rintro (h | h)
  · cases a <;> first | (cases h; done) | cases ha
  · cases b <;> first | (cases h; done) | cases hb
theorem ss_three {x y z : Str} {px py pz pt pt2 : Pos} {kt k2 : Nat} {a b d : Expr} {env : PySem.Env} (hk : env.scope.kind = .function) (hx : env.scope.names.lookup x = some .local) (hy : env.scope.names.lookup y = some .local) (hz : env.scope.names.lookup z = some .local) (hl : (px.line == py.line) = true) (hl2 : (px.line == pz.line) = true)
    (hne : (x == y) = false) (hne2 : (x == z) = false) (hne3 : (y == z) = false) (ha : starB a = false) (hb : starB b = false) (hd : starB d = false) (hf : [a, b, d].all (foldedForSure 8) = false) (hc : [a, b, d].all (constantsAlone 8) = false) :
    swappedStores [.Tuple [.Name x px, .Name y py, .Name z pz] kt pt] (.Tuple [a, b, d] k2 pt2) env = pure (some [x, y, z]) := by
  have e : env.blockKind = .function := by unfold PySem.Env.blockKind; rw [hk]; rfl
  have kx : env.kindOf x = some .local := hx
  have ky : env.kindOf y = some .local := hy
  have kz : env.kindOf z = some .local := hz
  have l2 : (py.line == px.line) = true := by rw [eq_of_beq hl]; simp
  have l3 : (pz.line == px.line) = true := by rw [eq_of_beq hl2]; simp
  have ne1 : (y == x) = false := by rw [Bool.beq_comm]; exact hne
  have ne2 : (z == x) = false := by rw [Bool.beq_comm]; exact hne2
  have ne3 : (z == y) = false := by rw [Bool.beq_comm]; exact hne3
  have n1 : x ≠ y := fun q => by rw [q] at hne; simp at hne
  have n2 : x ≠ z := fun q => by rw [q] at hne2; simp at hne2
  have n3 : y ≠ z := fun q => by rw [q] at hne3; simp at hne3
  unfold swappedStores
  simp only [List.length_cons, List.length_nil, e, List.any_cons, List.any_nil, List.head?_cons, Option.map_some, Option.getD_some, List.filterMap_cons, List.filterMap_nil, kx, ky, kz, l2, l3, hf, hc]
  have l4 : pz.line = py.line := (eq_of_beq hl2).symm.trans (eq_of_beq hl)
  simp [List.eraseDups_cons, ne1, ne2, ne3, n1, n2, n3, Expr.pos, l2, l3, eq_of_beq hl, l4, List.filter]
  rintro (h | h | h)
  · cases a <;> first | (cases h; done) | cases ha
  · cases b <;> first | (cases h; done) | cases hb
  · cases d <;> first | (cases h; done) | cases hd
section
variable {X : Cx} {c : Cs} {k : Nat} {W : L2.WX}
/-- name = [..] where the model stores within the comprehension's frame -/
theorem s_lc (A : AmbS c k X) (hcm : c.calm = true) (tk : Takes X W) {own : List (Str × Nat)} {it : Xi} {tg : Tg} {t : Xo} {e : Xp} {te : TD} (hte : ∀ σ H Q, LE X.K (WE W) te σ H Q → LE X.K (WE W) (wE (.comp own it tg t e)) σ H Q)
    {elt : Expr} {gs : List Comprehension} {s : Scope} {p p' pos : Pos} {x : Str} {i : Nat} (hn : chkNm c i (.Name x p') = true)
    (hl : lclB c.sc x = true) (hs : swB c.sc (.Name x p') (.ListComp elt gs s p) = true) (h : chkE c (.comp own it tg t e) (.ListComp elt gs s p) = true) (nd : NdE (wld X) k (.comp own it tg t e)) :
    PS X (.Assign [.Name x p'] (.ListComp elt gs s p) pos) (LS X.K W (wAsg (.nm i) te)) := by
  have hk : X.env.scope.kind = .function := by rw [A.sc]; exact A.kind
  have hsw := sw_lc (elt := elt) (gs := gs) (s := s) (p := p) (p' := p') (x := x) (l := pos.line) hk
  rw [A.sc, hs] at hsw
  have hN : X.N[i]? = some x := by
    simp only [chkNm, Bool.and_eq_true, decide_eq_true_eq] at hn
    rw [A.hN]; exact hn.1
  simp only [chkE] at h
  split at h
  · rename_i elt tge iter ifs as scope pos e0
    cases e0
    simp only [Bool.and_eq_true, decide_eq_true_eq, Bool.not_eq_true'] at h
    obtain ⟨h9, rfl, h1, h2, h3, ⟨h4, h8⟩, h5, h6, h7⟩ := h
    have A' := A.toAmb
    refine s_asg (tg := .nm i) (te' := tLc (LI X.K (WE W) (wI it)) (gTg X.K tg) (LT X.K E0s (wB t)) (LE X.K E0s (wE e)) (own.map (·.2))) (fun σ H Q q => comp_imp (own := own.map (·.2)) (fun j hj => ?_) (hte σ H Q q)) (ps_setLc (A.calm hcm) A.nd hN (by rw [A.sc]; exact lclB_ok hl) hsw (sI it A' tk h3 h8 nd.1) (own := own) (by rw [A.hN, A.sc]; exact blkOk_by h1)
      (fun s1 H C cl fp => pg_tg (blk_amb A' s1 H s cl C fp) h5) (fun s1 H C cl fp => sB t (blk_amb A' s1 H s cl C fp) takes0 h6 nd.2.1) (fun s1 H C cl fp => (sE e (W := fun _ _ _ _ => False) (blk_amb A' s1 H s cl C fp) takes0 h7 nd.2.2).1) (set_same h4))
    exact List.contains_iff_mem.mp (List.all_eq_true.mp h2 j hj)
  · cases h
theorem comp_of {c : Cs} {e : Xp} {elt : Expr} {gs : List Comprehension} {s : Scope} {p : Pos} (h : chkE c e (.ListComp elt gs s p) = true) :
    (∃ own it tg t e', e = .comp own it tg t e') ∨ ∃ own it tg t e', e = .trk (.comp own it tg t e') := by
  cases e with
  | comp own it tg t e' => exact .inl ⟨_, _, _, _, _, rfl⟩
  | trk x =>
    refine .inr ?_
    simp only [chkE, Bool.and_eq_true] at h
    cases x with
    | comp own it tg t e' => exact ⟨_, _, _, _, _, rfl⟩
    | trk x => simp [ntrk] at h
    | lckE _ x => simp [ntrk] at h
    | lckX x => simp [ntrk] at h
    | cst d => cases d <;> simp [chkE] at h
    | un f x => cases f <;> simp [chkE, Ufn.arg, argS, argN, argR, argR2] at h
    | _ => simp [chkE] at h
  | cst d => cases d <;> simp [chkE] at h
  | lckE _ x => simp [chkE, nlcB] at h
  | lckX x => simp [chkE, nlcB] at h
  | un f x => cases f <;> simp [chkE, Ufn.arg, argS, argN, argR, argR2] at h
  | _ => simp [chkE] at h
end
mutual
theorem sS : ∀ (m : Sm) {X : Cx} {c : Cs} {k : Nat} {s : Stmt} {W : L2.WX}, AmbS c k X → Takes X W → chkS c m s = true → NdS (wld X) k m → PS X s (LS X.K W (wS m))
  | .dead, X, c, k, s, W, A, tk, h, nd => ⟨fun pins s σ H D I q => by obtain ⟨B, ρ, g, D0, rs, w, q, _⟩ := q; exact q.elim⟩
  | .lck i m, X, c, k, s, W, A, tk, h, nd => s_lock (sS m A tk h nd)
  | .asg tg e, X, c, k, s, W, A, tk, h, nd => by
    simp only [chkS] at h
    split at h
    · rename_i t v pos
      simp only [Bool.and_eq_true] at h
      obtain ⟨h1, h2, h3⟩ := h
      have q := (sE e A.toAmb tk h2 nd).1
      split at h3
      · rename_i x p'
        cases tg with
        | tp is => simp [chkTg] at h1
        | tl is => simp [chkTg] at h1
        | nm i =>
          have g := h1
          simp only [chkTg, chkNm, Bool.and_eq_true, Bool.or_eq_true, decide_eq_true_eq] at g
          have go : swapsWith v (some (.Name x p')) pos.line X.env = pure false → PS X (.Assign [.Name x p'] v pos) (LS X.K W (wAsg (.nm i) (wE e))) := fun hs =>
            s_asg (te' := LE X.K (WE W) (wE e)) (fun _ _ _ h => h) (ps_set A.nd (by rw [A.hN]; exact g.1) (by rw [A.sc]; exact locB_ok g.2.1) q hs (g.2.2.imp (fun z => A.fn x z) fun z => by rw [A.sc]; exact lclB_ok z))
          split at h3
          · rename_i elt gs sc p
            have hk : X.env.scope.kind = .function := by rw [A.sc]; exact A.kind
            cases hs : swB c.sc (.Name x p') (.ListComp elt gs sc p) with
            | false =>
              refine go ?_
              rw [sw_lc hk, A.sc, hs]
            | true =>
              rw [hs, Bool.and_eq_true] at h3
              have hl : lclB c.sc x = true := by simpa using h3.2
              rcases comp_of h2 with ⟨own, it, tg, t, e', rfl⟩ | ⟨own, it, tg, t, e', rfl⟩
              · exact s_lc A h3.1 tk (fun _ _ _ h => h) h1 hl hs h2 nd
              · simp only [chkE, Bool.and_eq_true] at h2
                have h2' : chkE c (.comp own it tg t e') (.ListComp elt gs sc p) = true := by simp only [chkE]; exact h2.2.2
                exact s_lc A h3.1 tk (fun σ H Q q => trk_imp q) h1 hl hs h2' nd
          · exact go (sw_no (by simpa using h3))
      · rename_i hn
        simp only [Bool.and_eq_true, Bool.not_eq_true', Bool.or_eq_true] at h3
        have hst : ∀ a b, t ≠ .Starred a b := by
          intro a b z
          subst z
          cases tg <;> simp [chkTg, chkNm] at h1
        have hss : swappedStores [t] v X.env = pure none := by
          rcases h3.2 with h4 | h4
          · exact ss_no h4
          · exact ss_cell (by rw [A.sc]; exact h4)
        refine s_asg (te' := LE X.K (WE W) (wE e)) (fun _ _ _ h => h) (ps_asg q (pg_tg A.toAmb h1) (sw_tup h3.1) hss ?_)
        cases t <;> first | rfl | exact absurd rfl (hst _ _)
    · cases h
  | .put o i e, X, c, k, s, W, A, tk, h, nd => by
    simp only [chkS] at h
    split at h
    · rename_i l r p v pos
      simp only [Bool.and_eq_true, Bool.not_eq_true'] at h
      obtain ⟨h0, ⟨hs, h1⟩, h2, h3⟩ := h
      exact PS.of (ps_asg (sE e A.toAmb tk h3 nd.2.2).1 (pg_sub (sE o A.toAmb tk h1 nd.1).1 (sE i A.toAmb tk h2 nd.2.1).1 set_list (by intro z; cases r <;> first | rfl | cases hs)) (by show swapsWith v (some (.Subscript l r p)) pos.line X.env = pure false; exact sw_no h0) (by cases v <;> first | rfl | cases h0)) fun D σ H h => put_imp h
    · cases h
  | .dput o i e, X, c, k, s, W, A, tk, h, nd => by
    simp only [chkS] at h
    split at h
    · rename_i l r p v pos
      simp only [Bool.and_eq_true, Bool.not_eq_true'] at h
      obtain ⟨h0, ⟨hs, h1⟩, h2, h3⟩ := h
      exact s_dput (ps_dput (by have := A.un; omega) (sE o A.toAmb tk h1 nd.1).1 (sE i A.toAmb tk h2 nd.2.1).1 (sE e A.toAmb tk h3 nd.2.2).1 (sw_no h0))
    · cases h
  | .dputM o i e, X, c, k, s, W, A, tk, h, nd => by
    simp only [chkS] at h
    split at h
    · rename_i l r p v pos
      simp only [Bool.and_eq_true, Bool.not_eq_true'] at h
      obtain ⟨h0, ⟨hs, h1⟩, h2, h3⟩ := h
      exact s_dputM (ps_dput (by have := A.un; omega) (sE o A.toAmb tk h1 nd.1).1 (sE i A.toAmb tk h2 nd.2.1).1 (sE e A.toAmb tk h3 nd.2.2).1 (sw_no h0))
    · cases h
  | .par i j es, X, c, k, s, W, A, tk, h, nd => by
    simp only [chkS] at h
    split at h
    · rename_i x px y py kt pt a b k2 pt2 pos
      simp only [Bool.and_eq_true, decide_eq_true_eq, Bool.not_eq_true'] at h
      obtain ⟨hc, ⟨h1, h2, h3, h4, h5, h6⟩, ⟨h7, h8, h9⟩, h10, h11, h12⟩ := h
      have hij : i ≠ j := fun z => by rw [z] at h3; simp at h3
      have lx := lclB_ok h5
      have ly := lclB_ok h6
      rw [← A.sc] at lx ly
      refine PS.of (ps_par (A.calm hc) A.nd (by rw [A.hN]; exact h1) (by rw [A.hN]; exact h2) hij lx ly (sL es A.toAmb tk h12 nd) (ss_two (by rw [A.sc]; exact A.kind) lx ly h7 h4 h10 h11 h8 h9)) fun D σ H ⟨B, ρ, g, D0, rs, w, q, k⟩ => ?_
      refine ⟨B, ρ, g, _, _, rs, w, q, fun ds g1 vs H1 hq rv w1 f1 => ?_, k.xc rs w⟩
      dsimp only at hq
      split at hq
      · match rv with
        | .cons r1 (.cons r2 .nil) => exact ⟨_, _, rfl, k.nx _ g1 _ H1 hq (((rs.fv w f1).set r1).set r2) w1 f1⟩
      · exact hq.elim
    · cases h
  | .par3 i j l es, X, c, k, s, W, A, tk, h, nd => by
    simp only [chkS] at h
    split at h
    · rename_i x px y py z pz kt pt a b d k2 pt2 pos
      simp only [Bool.and_eq_true, decide_eq_true_eq, Bool.not_eq_true'] at h
      obtain ⟨hc, ⟨h1, h2, h3, ⟨h4, h5, h6⟩, ⟨m1, m2, m3⟩, h7, h8, h9⟩, ⟨p1, p2, p3, p4⟩, q1, q2, q3, q4⟩ := h
      have lx := lclB_ok h7
      have ly := lclB_ok h8
      have lz := lclB_ok h9
      rw [← A.sc] at lx ly lz
      refine PS.of (ps_par3 (A.calm hc) A.nd (by rw [A.hN]; exact h1) (by rw [A.hN]; exact h2) (by rw [A.hN]; exact h3) (fun z => by rw [z] at h4; simp at h4) (fun z => by rw [z] at h5; simp at h5) (fun z => by rw [z] at h6; simp at h6) lx ly lz (sL es A.toAmb tk q4 nd) (ss_three (by rw [A.sc]; exact A.kind) lx ly lz p1 p2 m1 m2 m3 q1 q2 q3 p3 p4)) fun D σ H ⟨B, ρ, g, D0, rs, w, q, k⟩ => ?_
      refine ⟨B, ρ, g, _, _, rs, w, q, fun ds g1 vs H1 hq rv w1 f1 => ?_, k.xc rs w⟩
      dsimp only at hq
      split at hq
      · match rv with
        | .cons r1 (.cons r2 (.cons r3 .nil)) => exact ⟨_, _, _, rfl, k.nx _ g1 _ H1 hq ((((rs.fv w f1).set r1).set r2).set r3) w1 f1⟩
      · exact hq.elim
    · cases h
  | .expr e, X, c, k, s, W, A, tk, h, nd => by
    cases s with
    | Expr v p =>
      simp only [chkS, Bool.and_eq_true, Bool.not_eq_true'] at h
      exact s_expr (ps_expr (sE e A.toAmb tk h.2 nd).1 (sw_no0 h.1))
    | _ => cases h
  | .ifs q a b, X, c, k, s, W, A, tk, h, nd => by
    cases s with
    | If t x y p =>
      simp only [chkS, Bool.and_eq_true] at h
      obtain ⟨h0, h1, h2, h3⟩ := h
      exact s_if ((sE q A.toAmb tk h1 nd.1).2.1 h0) (sSs a A tk h2 nd.2.1) (sSs b A tk h3 nd.2.2)
    | _ => cases h
  | .for_ it tg b, X, c, k, s, W, A, tk, h, nd => by
    simp only [chkS] at h
    split at h
    · simp only [Bool.and_eq_true, Bool.not_eq_true'] at h
      obtain ⟨h9, ⟨h0, h8⟩, h1, h2, h3⟩ := h
      exact s_for (ps_for A.po (A.calm h9) (sI it A.toAmb tk h1 h8 nd.1) (pg_tg A.toAmb h2) (sSs b A tk h3 nd.2) (set_same h0))
    · cases h
  | .whl q b, X, c, k, s, W, A, tk, h, nd => by
    simp only [chkS] at h
    split at h
    · simp only [Bool.and_eq_true] at h
      obtain ⟨h0, h1, h2⟩ := h
      exact s_whl (ps_while A.po ((sE q A.toAmb tk h1 nd.1).2.1 h0) (sSs b A tk h2 nd.2))
    · cases h
  | .ret e, X, c, k, s, W, A, tk, h, nd => by
    simp only [chkS] at h
    split at h
    · exact s_ret (sE e A.toAmb tk h nd).1
    · cases h
  | .retN, X, c, k, s, W, A, tk, h, nd => by
    simp only [chkS] at h
    split at h
    · exact s_retN
    · cases h
  | .ct, X, c, k, s, W, A, tk, h, nd => by
    simp only [chkS] at h
    split at h
    · exact s_ct
    · cases h
  | .raise C, X, c, k, s, W, A, tk, h, nd => by
    simp only [chkS] at h
    split at h
    · simp only [Bool.and_eq_true, decide_eq_true_eq] at h
      obtain ⟨h9, rfl, h1, h2⟩ := h
      obtain ⟨a, n1, n2, n3, n4, n5, n6⟩ := nd
      exact s_raise (A.calm h9) tk (glB_ok A.toAmb h1) n2 n1 n3 n4 n5 n6 (nmB_ok h2).1
    · cases h
  | .raiseAt C e, X, c, k, s, W, A, tk, h, nd => by
    simp only [chkS] at h
    split at h
    · simp only [Bool.and_eq_true, decide_eq_true_eq, Bool.not_eq_true'] at h
      obtain ⟨h9, rfl, ⟨h1, h2⟩, h3, h4⟩ := h
      obtain ⟨⟨hk, n1⟩, n7⟩ := nd
      obtain ⟨k, rfl⟩ : ∃ j, k = j + 2 := ⟨k - 2, by omega⟩
      exact s_raiseAt (A.room h9) (A.calm h9) tk (glB_ok A.toAmb h1) n1 (nmB_ok h2).1 (sE e A.toAmb tk h4 n7).1 (star_cons h3)
    · cases h
  | .sfld C f o e, X, c, k, s, W, A, tk, h, nd => by
    simp only [chkS] at h
    split at h
    · simp only [Bool.and_eq_true, decide_eq_true_eq, Bool.not_eq_true'] at h
      obtain ⟨rfl, h0, h1, h2⟩ := h
      obtain ⟨⟨z, n1, n2, n3⟩, n4, n5⟩ := nd
      exact s_fld n1 n2 n3 (sE o A.toAmb tk h1 n4).1 (sE e A.toAmb tk h2 n5).1 (sw_no h0)
    · cases h
  | .sfld2 C f f' o o' e, X, c, k, s, W, A, tk, h, nd => by
    simp only [chkS] at h
    split at h
    · rename_i l y p1 l' y' p2 kk p3 v p4
      simp only [Bool.and_eq_true, decide_eq_true_eq, Bool.not_eq_true'] at h
      obtain ⟨h9, rfl, rfl, ⟨h0, hd⟩, h1, h2, h3⟩ := h
      obtain ⟨⟨⟨z, n1, n2, n3⟩, ⟨z', n1', n2', n3'⟩⟩, n4, n5, n6⟩ := nd
      rw [n1] at n1'
      cases n1'
      exact s_fld2 n1 n2 n3 n3' (sE o A.toAmb tk h1 n4).1 (sE o' A.toAmb tk h2 n5).1 (sE e A.toAmb tk h3 n6).1 (A.calm h9) (show swapsWith v (some (Expr.Tuple [.Attribute l y p1, .Attribute l' y' p2] kk p3)) p4.line X.env = pure false from sw_tup (.inl rfl)) (ss_no hd)
    · cases h
  | .try_ xs C i b t, X, c, k, s, W, A, tk, h, nd => by
    simp only [chkS] at h
    split at h
    · rename_i body x np n one suite pos' pos
      simp only [Bool.and_eq_true, decide_eq_true_eq, List.all_eq_true] at h
      obtain ⟨h9, ⟨rfl, h1, h2⟩, ⟨h3, h4⟩, ⟨h5, h6⟩, h7⟩ := h
      obtain ⟨⟨a, n1, n2⟩, n3, n4⟩ := nd
      have E : ExcW X.K xs := A.ex.sub fun y hy => List.contains_iff_mem.mp (h4 y hy)
      have hC := List.contains_iff_mem.mp h3
      have bd : ∀ (W : WX) (pn : List (Addr × Obj)) (xe : Value → Shared → Prop), Takes (X.tr pn xe) W → PassesOwn (model X.prog X.w) X.A X.env xe → PSs (X.tr pn xe) body (LS X.K W (wSs b)) := fun W pn xe tk' po =>
        sSs b (X := X.tr pn xe) ⟨⟨A.hN, A.sc, A.fn, A.nd, A.calm, A.room, A.un, A.ex, A.nb, A.gu⟩, po, A.kind, A.stk⟩ tk' h5 n3
      have su : ∀ (a : Addr) (pn : List (Addr × Obj)), PSs (X.suite a pn) (one :: suite) (LS X.K (fun _ _ _ _ => False) (wSs t)) := fun a pn =>
        sSs t (X := X.suite a pn) (c := { c with calm := false }) ⟨⟨A.hN, A.sc, A.fn, A.nd, fun z => absurd z Bool.false_ne_true, fun z => absurd z Bool.false_ne_true, A.un, A.ex, A.nb, A.gu⟩, PassesOwn.never, A.kind, A.stk⟩ takes0 h6 n4
      match i, n, h7 with
      | some i, some n, h7 =>
        simp only [Bool.and_eq_true, decide_eq_true_eq] at h7
        exact s_try_as E hC n2 n1 (glB_ok A.toAmb h1) (nmB_ok h2).1 A.stk.1 A.stk.2 A.nd (by rw [A.hN]; exact h7.1) (by show X.env.scope.names.lookup n = _; rw [A.sc]; exact lclB_ok h7.2) tk bd su
      | none, none, h7 => exact s_try_only E hC n2 n1 (glB_ok A.toAmb h1) (nmB_ok h2).1 A.stk.1 A.stk.2 tk bd su
      | some _, none, h7 => cases h7
      | none, some _, h7 => cases h7
    · cases h
theorem sSs : ∀ (l : Sl) {X : Cx} {c : Cs} {k : Nat} {ss : List Stmt} {W : L2.WX}, AmbS c k X → Takes X W → chkSs c l ss = true → NdSs (wld X) k l → PSs X ss (LS X.K W (wSs l))
  | .nil, X, c, k, ss, W, A, tk, h, nd => by
    cases ss with
    | nil => exact s_nil
    | cons _ _ => simp [chkSs] at h
  | .cons m r, X, c, k, ss, W, A, tk, h, nd => by
    cases ss with
    | nil => simp [chkSs] at h
    | cons x xs =>
      simp only [chkSs, Bool.and_eq_true] at h
      exact s_cons (sS m A tk h.1 nd.1) (sSs r A tk h.2 nd.2)
  | .frz i r, X, c, k, ss, W, A, tk, h, nd => s_frz (sSs r A tk (by simpa only [chkSs] using h) nd)
  | .part b, X, c, k, ss, W, A, tk, h, nd => by
    have q := sSs b A tk (by simpa only [chkSs] using h) nd
    simp only [wSs, wHid_eq]
    exact q
end
/-- THE RULE: a def by its small syntax -/
theorem fn_by {P : Program} {w : World} {K : PySem.W.Frag} {mg : Str → Option Value} {base : Heap} {x qual : Str} {pm : Arguments} {bd : List Stmt} {sc : Scope} {f : Addr} {fd : FuncData} {N ps : List Str} {k : Nat} {sp : GSp} {body : Sl} {xs : List Str} (F : FunD K x qual pm bd sc [] [] f fd) (S : FnScope N ps sc)
    (hc : chkSs ⟨N, sc, fun _ => true, true, xs⟩ body bd = true) (E : ExcW K xs) (nb : ∀ x ∈ bnames, mg x = none) (nd : NdSs ⟨P, w, K, mg, base⟩ k body) (len : ∀ ds g Q W, sp ds g Q W → ds.length = ps.length)
    (hw : ∀ ds g Q W, sp ds g Q W → wSs body (bodyEnds g Q W) (startD N.length ds) g) : FnG P w K mg base (k + 1) f fd ps sp :=
  fn_ok F S len (fun cdv A outer s H Z gu hr => sSs body (c := ⟨N, sc, fun _ => true, true, xs⟩) ⟨⟨rfl, rfl, fun _ _ => rfl, S.nd, fun _ => rfl, fun _ => hr, by have := hr.un; show (A.deeper (PyProof.Rows.envOfC qual sc s.heap.objs.size f cdv)).units + 72 < cLine; omega, E, nb, gu⟩, passes_of rfl, S.kind, rfl, rfl⟩ (takes_of rfl rfl rfl rfl) hc nd) hw
end G3
/-! G3z: the head's facts, with looks of one's own -/
namespace G3
open PySem PySem.Spec PyProof.Rows L2
section
variable {xb : List (PySem.W.Frag → Bool)} {fa : List He.Fa} {fn : List He.DefD} {K : PySem.W.Frag}
theorem SaysX.e (c : SaysX xb fa fn K) : obsX xb fa fn K = He.valD fn := c
theorem SaysX.d (c : SaysX xb fa fn K) : He.SaysD fa fn K := by
  have h1 : ((xb.all fun f => f K) && (He.obsD fa fn K).1) = true := by
    have q := congrArg (fun z : He.AlD => z.1) c.e
    exact q
  have h2 : (He.obsD fa fn K).2 = (He.valD fn).2 := by
    have q := congrArg (fun z : He.AlD => z.2) c.e
    exact q
  have : He.obsD fa fn K = He.valD fn := Prod.ext (Bool.and_eq_true_iff.mp h1).2 h2
  exact this
theorem SaysX.x (c : SaysX xb fa fn K) (f : PySem.W.Frag → Bool) (h : f ∈ xb) : f K = true := by
  have h1 : ((xb.all fun f => f K) && (He.obsD fa fn K).1) = true := by
    have q := congrArg (fun z : He.AlD => z.1) c.e
    exact q
  exact List.all_eq_true.mp (Bool.and_eq_true_iff.mp h1).1 f h
end
theorem oexB_ok {K : PySem.W.Frag} {C : Addr} (h : oexB K C = true) : OexC K C := by
  unfold oexB at h
  rw [Bool.and_eq_true] at h
  obtain ⟨h, h'⟩ := h
  simp only [Bool.and_eq_true, decide_eq_true_eq] at h'
  obtain ⟨q1, q2, q3, q4⟩ := h'
  refine ⟨?_, q1, q2, q3, q4⟩
  split at h
  · rename_i t dd cd sl ho
    split at h
    · rename_i C' bm k0 k1 k2 k3 n k5 hm hs
      simp only [Bool.and_eq_true, decide_eq_true_eq, Bool.not_eq_true'] at h
      obtain ⟨rfl, rfl, rfl, hdel, hd, hb⟩ := h
      obtain ⟨nm, bs, mro, ns, qn, hd2, sn, sub, ab, col, del⟩ := cd
      dsimp only at hm hdel hd
      subst hm hdel hd
      have hsl : sl = #[k0, k1, k2, k3, some (.builtin "ValueError.__new__"), k5] := by
        obtain ⟨l⟩ := sl
        simp only at hs
        rw [hs]
      subst hsl
      exact ⟨nm, qn, ns, bs, bm, sn, sub, ab, col, dd, k0, k1, k2, k3, k5, ho, hb⟩
    · cases h
  · cases h
theorem upB_ok {K : PySem.W.Frag} (h : upB K = true) : PySem.W.nsIn K mainGlobals upN = some (some (.ref (He.ga K upN))) ∧ UpC K (He.ga K upN) (.type "type") := by
  unfold upB at h
  rw [Bool.and_eq_true, Bool.and_eq_true, Bool.and_eq_true, decide_eq_true_eq, decide_eq_true_eq] at h
  obtain ⟨h1, ⟨h2, h3⟩, h4⟩ := h
  refine ⟨h3, h1, h2, ?_⟩
  split at h4
  · rename_i n e
    rw [e, of_decide_eq_true h4]
  · cases h4
theorem atB_ok {P : Program} {w : World} {K : PySem.W.Frag} {mg : Str → Option Value} {base h : Heap} {C x qual : Str} {pm : Arguments} {bd : List Stmt} {sc : Scope} {fd : FuncData} (X : K.In h) (G : h.Ns mainGlobals mg) (c : atB C K = true)
    (F : FunD K x qual pm bd sc [] [] (He.fAd K (C, some "__init__")) fd) (Sc : FnScope ["self", "at"] ["self", "at"] sc) (hbd : initB sc bd = true) (bd' : Binds K fd ["self", "at"] []) : AtC P w K mg base C := by
  simp only [atB, Bool.and_eq_true, decide_eq_true_eq] at c
  obtain ⟨h1, h2, h3, h4, h5, h6⟩ := c
  obtain ⟨u1, u2⟩ := upB_ok h6
  exact ⟨_, _, fd, gaK_of h1, PySem.W.mg_of X G h1, oexB_ok h2, h3, h4, h5, init_ok F Sc hbd (PySem.W.mg_of X G u1) u2, bd'⟩
theorem clmB_ok {P : Program} {w : World} {K : PySem.W.Frag} {mg : Str → Option Value} {base h : Heap} {C m : Str} {k j : Nat} {fd : FuncData} {ps : List Str} {sp : GSp} (X : K.In h) (G : h.Ns mainGlobals mg) (c : clmB C m K = true) (hj : j ≤ k)
    (kp : PySem.W.keepIn K (.ref (He.fAd K (C, some m))) = true) (F : FnG P w K mg base j (He.fAd K (C, some m)) fd ps sp) (hb : Binds K fd ps []) : CmIn ⟨P, w, K, mg, base⟩ k C m sp := by
  simp only [clmB, Bool.and_eq_true, decide_eq_true_eq] at c
  obtain ⟨h1, h2, h3, h4, h5⟩ := c
  refine ⟨_, _, fd, ps, j, hj, PySem.W.mg_of X G h1, ⟨h2, h3, ?_, h5, kp⟩, F, hb⟩
  split at h4
  · rename_i f e
    rw [e, of_decide_eq_true h4]
  · cases h4
theorem gtpB_ok {P : Program} {w : World} {K : PySem.W.Frag} {mg : Str → Option Value} {base h : Heap} {x : Str} {ws : List Str} (X : K.In h) (G : h.Ns mainGlobals mg) (c : gtpB x ws K = true) : GtIn ⟨P, w, K, mg, base⟩ x ws := by
  unfold gtpB at c
  split at c
  · rename_i a e
    refine ⟨a, PySem.W.mg_of X G e, fun H => .inr ?_⟩
    split at c
    · rename_i t d its n sl el
      simp only [Bool.and_eq_true, decide_eq_true_eq] at c
      obtain ⟨rfl, hz, hw⟩ := c
      refine ⟨_, its, n, el, rfl, rfl, by unfold sizeLine; omega, ?_⟩
      have go : ∀ (l : List Value) (ws : List Str), l.map (fun v => match v with | .str z _ => some z | _ => none) = ws.map some → Vals (ws.map V.str) l := by
        intro l
        induction l with
        | nil => intro ws hw; cases ws with
          | nil => exact .nil
          | cons _ _ => cases hw
        | cons v l ih => intro ws hw; cases ws with
          | nil => cases hw
          | cons z ws =>
            rw [List.map_cons, List.map_cons] at hw
            injection hw with h1 h2
            refine .cons ?_ (ih ws h2)
            split at h1
            · cases h1; exact ⟨_, rfl⟩
            · cases h1
      exact go _ _ hw
    · cases c
  · cases c
end G3
/-! G3: proving over the meaning: rules for loops -/
namespace G3
open PySem L2

section
variable {gd : GH → Prop} {st : D → GH → (Option R → GH → Prop) → Prop} {Q : List D → GH → Prop}
/-- a comprehension that keeps what p says and makes f of it, and changes nothing -/
theorem compW_fm {α : Type} (enc : α → D) (p : α → Bool) (f : α → D) {g : GH} (hg : gd g) : ∀ {xs : List α} {acc : List D},
    (∀ x ∈ xs, ∀ P : Option R → GH → Prop, (if p x = true then P (some (.v (f x))) g else P none g) → st (enc x) g P) → acc.length + xs.length ≤ sizeLine → Q (acc ++ (xs.filter p).map f) g → compW gd st (xs.map enc) acc g Q
  | [], acc, _, _, q => ⟨hg, by simpa using q⟩
  | x :: xs, acc, h, hz, q => by
    refine ⟨hg, by simp only [List.length_cons] at hz; omega, h x List.mem_cons_self _ ?_⟩
    cases e : p x with
    | true =>
      rw [if_pos rfl]
      refine compW_fm enc p f hg (fun y hy => h y (List.mem_cons_of_mem _ hy)) (by simp only [List.length_append, List.length_cons, List.length_nil] at hz ⊢; omega) ?_
      rw [List.filter_cons_of_pos e] at q
      simpa using q
    | false =>
      rw [if_neg Bool.false_ne_true]
      refine compW_fm enc p f hg (fun y hy => h y (List.mem_cons_of_mem _ hy)) (by simp only [List.length_cons] at hz; omega) ?_
      rw [List.filter_cons_of_neg (by rw [e]; exact Bool.false_ne_true)] at q
      exact q
theorem compW_m {α : Type} (enc : α → D) (f : α → D) {g : GH} (hg : gd g) {xs : List α}
    (h : ∀ x ∈ xs, ∀ P : Option R → GH → Prop, P (some (.v (f x))) g → st (enc x) g P) (hz : xs.length ≤ sizeLine) (q : Q (xs.map f) g) : compW gd st (xs.map enc) [] g Q :=
  compW_fm enc (fun _ => true) f hg (fun x hx P hp => h x hx P (by simpa using hp)) (by simpa using hz) (by rw [List.filter_eq_self.mpr fun _ _ => rfl, List.nil_append]; exact q)
end
theorem RetOk.same {g0 : GH} {Q : QK} {r : R} {g' : GH} (h : Q r g') : RetOk g0 Q r g' := ⟨r, g', fun _ _ h => h, .inl rfl, h⟩
/-- handed back with no more tracked than is said -/
theorem RetOk.less {g0 : GH} {Q : QK} {r : R} {g' g'' : GH} (s : ∀ b o, g'' b = some o → g' b = some o) (h : Q r g'') : RetOk g0 Q r g' := ⟨r, g'', s, .inl rfl, h⟩
/-- a list that was made here is handed back -/
theorem RetOk.tl {g0 : GH} {Q : QK} {p : Addr} {ds : List D} {g' g'' : GH} (hp : g' p = some (.lst ds)) (h0 : g0 p = none) (hn : g'' p = none) (s : ∀ b o, g'' b = some o → g' b = some o) (h : Q (.tl ds) g'') : RetOk g0 Q (.v (.ref p)) g' :=
  ⟨.tl ds, g'', s, .inr ⟨p, ds, rfl, rfl, hp, h0, hn⟩, h⟩
theorem all_map {α : Type} (xs : List α) (f : α → Bool) : (xs.map f).all id = xs.all f := by simp [List.all_map]
theorem any_map {α : Type} (xs : List α) (f : α → Bool) : (xs.map f).any id = xs.any f := by simp [List.any_map]
theorem okDs_ints : ∀ xs : List Int, okDs 0 (xs.map .int) = true
  | [] => rfl
  | x :: xs => by simp [okDs, okD, okDs_ints xs]
theorem deq_int (i j : Int) : deq (.int i) (.int j) = (i == j) := rfl
theorem inD_ints (i : Int) : ∀ xs : List Int, inD (.int i) (xs.map .int) = xs.contains i
  | [] => rfl
  | x :: xs => by
    have e := inD_ints i xs
    unfold inD at e ⊢
    rw [List.map_cons, List.any_cons, e, deq_int, List.contains_cons]
    congr 1
    exact Bool.beq_comm
end G3
/-! W0: rules for proofs over the meaning -/
namespace G3
open PySem L2
theorem atI_nat' {α : Type} {xs : List α} {i : Nat} : L2.atI xs (i : Int) = xs[i]? := by
  unfold L2.atI ixN
  rw [if_pos (by omega)]
  split
  · simp
  · rename_i h
    rw [List.getElem?_eq_none (by omega)]
    rfl
theorem atI_0 {α : Type} {a : α} {xs : List α} : L2.atI (a :: xs) 0 = some a := by
  have := atI_nat' (xs := a :: xs) (i := 0); simpa using this
theorem atI_1 {α : Type} {a b : α} {xs : List α} : L2.atI (a :: b :: xs) 1 = some b := by
  have := atI_nat' (xs := a :: b :: xs) (i := 1); simpa using this
theorem atI_2 {α : Type} {a b c : α} {xs : List α} : L2.atI (a :: b :: c :: xs) 2 = some c := by
  have := atI_nat' (xs := a :: b :: c :: xs) (i := 2); simpa using this
theorem atI_3 {α : Type} {a b c d : α} {xs : List α} : L2.atI (a :: b :: c :: d :: xs) 3 = some d := by
  have := atI_nat' (xs := a :: b :: c :: d :: xs) (i := 3); simpa using this
/-- an item of a list of things of one kind -/
theorem atI_map {α β : Type} (f : α → β) {xs : List α} {i : Int} (h0 : 0 ≤ i) (h1 : i < xs.length) : ∃ x, x ∈ xs ∧ xs[i.toNat]? = some x ∧ L2.atI (xs.map f) i = some (f x) := by
  obtain ⟨n, rfl⟩ : ∃ n : Nat, i = n := ⟨i.toNat, by omega⟩
  have hi : n < xs.length := by omega
  rw [Int.toNat_natCast]
  exact ⟨xs[n], List.getElem_mem hi, List.getElem?_eq_getElem hi, by rw [atI_nat', List.getElem?_map, List.getElem?_eq_getElem hi]; rfl⟩
theorem ixN_nat {n i : Nat} (h : i < n) : ixN n (i : Int) = some i := by
  unfold ixN
  rw [if_pos (by omega), if_pos (by omega), Int.toNat_natCast]
theorem ixN_0 {n : Nat} (h : 0 < n) : ixN n 0 = some 0 := ixN_nat (i := 0) h
theorem ixN_1 {n : Nat} (h : 1 < n) : ixN n 1 = some 1 := ixN_nat (i := 1) h
theorem ixN_2 {n : Nat} (h : 2 < n) : ixN n 2 = some 2 := ixN_nat (i := 2) h
theorem ixN_s0 {n : Nat} : ixN (n + 1) 0 = some 0 := ixN_0 (by omega)
theorem ixN_s1 {n : Nat} : ixN (n + 1 + 1) 1 = some 1 := ixN_1 (by omega)
theorem ixN_s2 {n : Nat} : ixN (n + 1 + 1 + 1) 2 = some 2 := ixN_2 (by omega)
theorem seqIndex_ok {i : Int} {n : Nat} (h0 : 0 ≤ i) (h1 : i < n) : seqIndex? i n = some i.toNat := by
  have e : (if i < 0 then i + (n : Int) else i) = i := if_neg (by omega)
  show (if (decide (0 ≤ (if i < 0 then i + (n : Int) else i)) && decide ((if i < 0 then i + (n : Int) else i) < n)) = true then some (if i < 0 then i + (n : Int) else i).toNat else none) = _
  rw [e, if_pos (by simp [h0, h1])]
theorem gup_self {g : GH} {a : Addr} {o : DO} (h : g a = some o) : gup g a o = g := by
  funext b; unfold gup; split
  · rename_i e; rw [e, h]
  · rfl
theorem ex_eq {α : Type} {a : α} {P : α → Prop} : (∃ x, x = a ∧ P x) ↔ P a := ⟨fun ⟨_, e, h⟩ => e ▸ h, fun h => ⟨a, rfl, h⟩⟩
theorem ex_eq' {α : Type} {a : α} {P : α → Prop} : (∃ x, a = x ∧ P x) ↔ P a := ⟨fun ⟨_, e, h⟩ => e ▸ h, fun h => ⟨a, rfl, h⟩⟩
theorem ex2_eq {α β : Type} {a : α} {P : α → β → Prop} : (∃ x y, x = a ∧ P x y) ↔ ∃ y, P a y := ⟨fun ⟨_, y, e, h⟩ => ⟨y, e ▸ h⟩, fun ⟨y, h⟩ => ⟨a, y, rfl, h⟩⟩
theorem ex2_eq' {α β : Type} {a : α} {P : α → β → Prop} : (∃ x y, a = x ∧ P x y) ↔ ∃ y, P a y := ⟨fun ⟨_, y, e, h⟩ => ⟨y, e ▸ h⟩, fun ⟨y, h⟩ => ⟨a, y, rfl, h⟩⟩
theorem ex_or1 {α : Type} {a : α} {P : α → Prop} {B : Prop} : (∃ x, (x = a ∨ False) ∧ P x) ↔ P a := by simp
theorem ite_dec {c : Prop} [Decidable c] {A B : Prop} : (if decide c = true then A else B) ↔ (if c then A else B) := by simp
/-- a def's loop, by what holds before each turn -/
theorem forW_inv {gd : GH → Prop} {tg : Tg} {tb : TSD} {De : DEnds} (I : Nat → DEnv → GH → Prop) : ∀ {ds : List D} {k : Nat} {ρ : DEnv} {g : GH}, I k ρ g → (∀ i ρ g, I i ρ g → gd g) →
    (∀ i d ρ g, ds[i]? = some d → I (k + i) ρ g → ∀ N : DEnv → GH → Prop, (∀ ρ' g', I (k + i + 1) ρ' g' → N ρ' g') → tgB tg d ρ fun ρ1 => tb { De with nx := N, ct := N } ρ1 g) →
    (∀ ρ g, I (k + ds.length) ρ g → De.nx ρ g) → forW gd tg tb De ds ρ g
  | [], k, ρ, g, h, hg, _, hd => ⟨hg _ _ _ h, hd ρ g h⟩
  | d :: ds, k, ρ, g, h, hg, hs, hd => by
    refine ⟨hg _ _ _ h, hs 0 d ρ g rfl h _ fun ρ' g' h' => ?_⟩
    refine forW_inv I (k := k + 1) h' hg (fun i d' ρ g hi hI N hN => ?_) fun ρ g hI => hd ρ g ?_
    · have := hs (i + 1) d' ρ g (by simpa using hi)
      rw [show k + (i + 1) = k + 1 + i by omega] at this
      exact this hI N hN
    · rw [show k + 1 + ds.length = k + (d :: ds).length by simp; omega] at hI; exact hI
/-- a comprehension, by what holds before each turn -/
theorem compW_inv {gd : GH → Prop} {st : D → GH → (Option R → GH → Prop) → Prop} {Q : List D → GH → Prop} (I : Nat → List D → GH → Prop) : ∀ {ds acc : List D} {k : Nat} {g : GH}, I k acc g → (∀ i acc g, I i acc g → gd g ∧ acc.length < sizeLine) →
    (∀ i d acc g, ds[i]? = some d → I (k + i) acc g → ∀ P : Option R → GH → Prop, (∀ r g', I (k + i + 1) (acc ++ [r.fz]) g' → P (some r) g') → (∀ g', I (k + i + 1) acc g' → P none g') → st d g P) →
    (∀ acc g, I (k + ds.length) acc g → Q acc g) → compW gd st ds acc g Q
  | [], acc, k, g, h, hg, _, hd => ⟨(hg _ _ _ h).1, hd acc g h⟩
  | d :: ds, acc, k, g, h, hg, hs, hd => by
    have step : ∀ acc' g', I (k + 0 + 1) acc' g' → compW gd st ds acc' g' Q := fun acc' g' q => by
      refine compW_inv I (k := k + 1) q hg (fun i d' acc g hi hI => ?_) fun acc g hI => hd acc g ?_
      · have := hs (i + 1) d' acc g (by simpa using hi)
        rw [show k + (i + 1) = k + 1 + i by omega] at this
        exact this hI
      · rw [show k + 1 + ds.length = k + (d :: ds).length by simp; omega] at hI; exact hI
    exact ⟨(hg _ _ _ h).1, (hg _ _ _ h).2, hs 0 d acc g rfl h _ (fun r g' q => step _ _ q) fun g' q => step _ _ q⟩
/-- over the numbers below n -/
theorem compW_rng {st : D → GH → (Option R → GH → Prop) → Prop} {Q : List D → GH → Prop} (I : Nat → List D → GH → Prop) {n : Nat} {g : GH} (h0 : I 0 [] g) (hg : ∀ i acc g, I i acc g → acc.length < sizeLine)
    (hs : ∀ i, i < n → ∀ acc g, I i acc g → ∀ P : Option R → GH → Prop, (∀ r g', I (i + 1) (acc ++ [r.fz]) g' → P (some r) g') → (∀ g', I (i + 1) acc g' → P none g') → st (.int i) g P)
    (hd : ∀ acc g, I n acc g → Q acc g) : compW (fun _ => True) st (rngD 0 n) [] g Q := by
  refine compW_inv I (k := 0) h0 (fun i acc g h => ⟨trivial, hg i acc g h⟩) (fun i d acc g hi hI P h1 h2 => ?_) fun acc g h => hd acc g ?_
  · unfold rngD at hi
    rw [List.getElem?_map] at hi
    by_cases hn : i < n
    · rw [List.getElem?_range hn] at hi
      cases hi
      rw [show (fun i : Nat => D.int (0 + (i : Int))) i = D.int i from congrArg D.int (Int.zero_add _)]
      rw [Nat.zero_add] at hI h1 h2
      exact hs i hn acc g hI P h1 h2
    · rw [List.getElem?_eq_none (by simpa using hn)] at hi
      cases hi
  · rw [Nat.zero_add] at h
    simpa [rngD] using h
/-- over things of one kind -/
theorem compW_map {α : Type} (enc : α → D) {gd : GH → Prop} {st : D → GH → (Option R → GH → Prop) → Prop} {Q : List D → GH → Prop} (I : Nat → List D → GH → Prop) {xs : List α} {g : GH} (h0 : I 0 [] g) (hg : ∀ i acc g, I i acc g → gd g ∧ acc.length < sizeLine)
    (hs : ∀ i x, xs[i]? = some x → ∀ acc g, I i acc g → ∀ P : Option R → GH → Prop, (∀ r g', I (i + 1) (acc ++ [r.fz]) g' → P (some r) g') → (∀ g', I (i + 1) acc g' → P none g') → st (enc x) g P)
    (hd : ∀ acc g, I xs.length acc g → Q acc g) : compW gd st (xs.map enc) [] g Q := by
  refine compW_inv I (k := 0) h0 hg (fun i d acc g hi hI P h1 h2 => ?_) fun acc g h => hd acc g (by simpa using h)
  rw [List.getElem?_map] at hi
  cases e : xs[i]? with
  | none => rw [e] at hi; cases hi
  | some x =>
    rw [e] at hi; cases hi
    rw [Nat.zero_add] at hI h1 h2
    exact hs i x e acc g hI P h1 h2
theorem fIn_ints {neg : Bool} {s : Int} {xs : List Int} {g : GH} {Q : QK} (q : Q (.v (.bl (neg ^^ xs.contains s))) g) : fIn neg (.v (.int s)) (.v (.tup (xs.map .int))) g Q :=
  ⟨_, .inr (.inl rfl), rfl, okDs_ints _, by rw [R.fz_v, inD_ints]; cases neg <;> simpa using q⟩
theorem fIn_intsL {neg : Bool} {s : Int} {xs : List Int} {g : GH} {Q : QK} {r : R} (h : lstOf g r (xs.map .int)) (q : Q (.v (.bl (neg ^^ xs.contains s))) g) : fIn neg (.v (.int s)) r g Q :=
  ⟨_, .inl h, rfl, okDs_ints _, by rw [R.fz_v, inD_ints]; cases neg <;> simpa using q⟩
/-- a loop over the numbers below n -/
theorem forW_rng {tg : Tg} {tb : TSD} {De : DEnds} (I : Nat → DEnv → GH → Prop) {n : Nat} {ρ : DEnv} {g : GH} (h0 : I 0 ρ g)
    (hs : ∀ i, i < n → ∀ ρ g, I i ρ g → ∀ N : DEnv → GH → Prop, (∀ ρ' g', I (i + 1) ρ' g' → N ρ' g') → tgB tg (.int i) ρ fun ρ1 => tb { De with nx := N, ct := N } ρ1 g)
    (hd : ∀ ρ g, I n ρ g → De.nx ρ g) : forW (fun _ => True) tg tb De (rngD 0 n) ρ g := by
  refine forW_inv I (k := 0) h0 (fun _ _ _ _ => trivial) (fun i d ρ g hi hI N hN => ?_) fun ρ g h => hd ρ g ?_
  · unfold rngD at hi
    rw [List.getElem?_map] at hi
    by_cases hn : i < n
    · rw [List.getElem?_range hn] at hi
      cases hi
      rw [show (fun i : Nat => D.int (0 + (i : Int))) i = D.int i from congrArg D.int (Int.zero_add _)]
      rw [Nat.zero_add] at hI hN
      exact hs i hn ρ g hI N hN
    · rw [List.getElem?_eq_none (by simpa using hn)] at hi
      cases hi
  · rw [Nat.zero_add] at h
    simpa [rngD] using h
/-- a loop over things of one kind -/
theorem forW_map {α : Type} (enc : α → D) {gd : GH → Prop} {tg : Tg} {tb : TSD} {De : DEnds} (I : Nat → DEnv → GH → Prop) {xs : List α} {ρ : DEnv} {g : GH} (h0 : I 0 ρ g) (hg : ∀ i ρ g, I i ρ g → gd g)
    (hs : ∀ i x, xs[i]? = some x → ∀ ρ g, I i ρ g → ∀ N : DEnv → GH → Prop, (∀ ρ' g', I (i + 1) ρ' g' → N ρ' g') → tgB tg (enc x) ρ fun ρ1 => tb { De with nx := N, ct := N } ρ1 g)
    (hd : ∀ ρ g, I xs.length ρ g → De.nx ρ g) : forW gd tg tb De (xs.map enc) ρ g := by
  refine forW_inv I (k := 0) h0 hg (fun i d ρ g hi hI N hN => ?_) fun ρ g h => hd ρ g (by simpa using h)
  rw [List.getElem?_map] at hi
  cases e : xs[i]? with
  | none => rw [e] at hi; cases hi
  | some x =>
    rw [e] at hi; cases hi
    rw [Nat.zero_add] at hI hN
    exact hs i x e ρ g hI N hN
theorem enumD_map {α : Type} (enc : α → D) : ∀ (xs : List α) (i : Nat), enumD i (xs.map enc) = (xs.zipIdx i).map fun p => .tup [.int p.2, enc p.1]
  | [], _ => rfl
  | x :: xs, i => by
    show _ :: enumD (i + 1) (xs.map enc) = _
    rw [enumD_map enc xs (i + 1)]
    rfl
theorem cutD_map {α β : Type} (f : α → β) (xs : List α) (lo hi : Option Int) : cutD (xs.map f) lo hi = (cutD xs lo hi).map f := by
  unfold cutD
  rw [List.length_map, List.map_take, List.map_drop]
theorem cutD_first {α : Type} {xs : List α} {i : Int} (h0 : 0 ≤ i) : cutD xs none (some i) = xs.take i.toNat := by
  have h2 : HT.sIx xs.length 0 none = 0 := rfl
  have h3 : HT.sIx xs.length xs.length (some i) = min i.toNat xs.length := by simp only [HT.sIx]; rw [if_neg (by omega)]
  unfold cutD
  rw [h2, h3, List.drop_zero, Nat.sub_zero]
  by_cases z : i.toNat ≤ xs.length
  · rw [Nat.min_eq_left z]
  · rw [Nat.min_eq_right (by omega), List.take_of_length_le (Nat.le_refl _), List.take_of_length_le (by omega)]
theorem cutD_from {α : Type} {xs : List α} {i : Int} (h0 : 0 ≤ i) : cutD xs (some i) none = xs.drop i.toNat := by
  have h2 : HT.sIx xs.length xs.length none = xs.length := rfl
  have h3 : HT.sIx xs.length 0 (some i) = min i.toNat xs.length := by simp only [HT.sIx]; rw [if_neg (by omega)]
  unfold cutD
  rw [h2, h3]
  by_cases z : i.toNat ≤ xs.length
  · rw [Nat.min_eq_left z, List.take_of_length_le (by simp)]
  · rw [Nat.min_eq_right (by omega), List.drop_of_length_le (Nat.le_refl _), List.drop_of_length_le (by omega)]; simp
theorem cutD_pre {α : Type} {xs : List α} {i : Int} (h0 : 0 ≤ i) (h1 : i ≤ xs.length) : cutD xs none (some i) = xs.take i.toNat := by
  have : HT.sIx xs.length xs.length (some i) = i.toNat := by
    simp only [HT.sIx]; rw [if_neg (by omega)]; omega
  have h2 : HT.sIx xs.length 0 none = 0 := rfl
  unfold cutD
  rw [this, h2, List.drop_zero, Nat.sub_zero]
theorem cutD_post {α : Type} {xs : List α} {i : Int} (h0 : 0 ≤ i) (h1 : i ≤ xs.length) : cutD xs (some i) none = xs.drop i.toNat := by
  have : HT.sIx xs.length 0 (some i) = i.toNat := by
    simp only [HT.sIx]; rw [if_neg (by omega)]; omega
  have h2 : HT.sIx xs.length xs.length none = xs.length := rfl
  unfold cutD
  rw [this, h2, List.take_of_length_le (by simp)]
theorem gup_swap {g : GH} {a b : Addr} {x y : DO} (h : a ≠ b) : gup (gup g a x) b y = gup (gup g b y) a x := by
  funext c; unfold gup
  by_cases h1 : c = a
  · subst h1; rw [if_neg h, if_pos rfl, if_pos rfl]
  · by_cases h2 : c = b
    · subst h2; rw [if_pos rfl, if_neg h1, if_pos rfl]
    · rw [if_neg h2, if_neg h1, if_neg h1, if_neg h2]
/-- a change below one other, below two others -/
theorem gup_in1 {g : GH} {a b : Addr} {x y z : DO} (h : a ≠ b) : gup (gup (gup g a x) b y) a z = gup (gup g a z) b y := by rw [gup_swap (g := g) h, gup_gup, gup_swap h]
theorem gup_in2 {g : GH} {a b c : Addr} {x y z w : DO} (h : a ≠ b) (h2 : a ≠ c) : gup (gup (gup (gup g a x) b y) c z) a w = gup (gup (gup g a w) b y) c z := by
  rw [gup_swap (a := c) (Ne.symm h2), gup_in1 h]
theorem gup_less {g : GH} {a : Addr} {o : DO} (h : g a = none) : ∀ b u, g b = some u → gup g a o b = some u := fun b u e => by
  rw [gup_ne (fun k => by rw [k, h] at e; cases e)]; exact e
theorem seqIndex_lt {i : Int} {n : Nat} (h0 : 0 ≤ i) (h1 : i < n) : ∃ k : Nat, i = k ∧ k < n ∧ seqIndex? i n = some k :=
  ⟨i.toNat, by omega, by omega, seqIndex_ok h0 h1⟩
theorem atI_lt {α : Type} {xs : List α} {i : Int} (h0 : 0 ≤ i) (h1 : i < xs.length) : ∃ (k : Nat) (x : α), i = k ∧ xs[k]? = some x ∧ x ∈ xs ∧ L2.atI xs i = some x := by
  obtain ⟨k, rfl⟩ : ∃ k : Nat, i = k := ⟨i.toNat, by omega⟩
  have hk : k < xs.length := by omega
  exact ⟨k, xs[k], rfl, List.getElem?_eq_getElem hk, List.getElem_mem hk, by rw [atI_nat', List.getElem?_eq_getElem hk]⟩
theorem map_inj_int {xs ys : List Int} (h : xs.map D.int = ys.map D.int) : xs = ys := by
  induction xs generalizing ys with
  | nil => cases ys <;> simp_all
  | cons x xs ih =>
    cases ys with
    | nil => simp at h
    | cons y ys => simp only [List.map_cons, List.cons.injEq, D.int.injEq] at h; rw [h.1, ih h.2]
theorem szl : sizeLine = 16777216 := rfl
theorem erase_perm {α : Type} : ∀ {xs : List α} {k : Nat} (h : k < xs.length), (xs[k] :: xs.eraseIdx k).Perm xs
  | [], _, h => absurd h (by simp)
  | x :: xs, 0, _ => .refl _
  | x :: xs, k + 1, h => by
    rw [List.eraseIdx_cons_succ, List.getElem_cons_succ]
    exact (List.Perm.swap _ _ _).trans ((erase_perm (by simpa using h)).cons x)
theorem erase_map {α β : Type} (f : α → β) : ∀ (xs : List α) (k : Nat), (xs.map f).eraseIdx k = (xs.eraseIdx k).map f
  | [], _ => rfl
  | x :: xs, 0 => rfl
  | x :: xs, k + 1 => by rw [List.map_cons, List.eraseIdx_cons_succ, erase_map f xs k, List.eraseIdx_cons_succ, List.map_cons]
theorem gup_up2 {g : GH} {a b c : Addr} {y z w : DO} (h1 : a ≠ b) (h2 : a ≠ c) : gup (gup (gup g b y) c z) a w = gup (gup (gup g a w) b y) c z := by
  rw [gup_swap (a := c) h2.symm, gup_swap (a := b) h1.symm]
theorem gup_up1 {g : GH} {a b : Addr} {y w : DO} (h1 : a ≠ b) : gup (gup g b y) a w = gup (gup g a w) b y := gup_swap h1.symm
/-! ### data of a kind -/
theorem deq_bl (a b : Bool) : deq (.bl a) (.bl b) = (a == b) := rfl
theorem deq_str (a b : Str) : deq (.str a) (.str b) = (a == b) := rfl
theorem deqs_map {α : Type} [BEq α] (enc : α → D) (h : ∀ x y, deq (enc x) (enc y) = (x == y)) : ∀ xs ys : List α, PyData.eqvAll (pds (xs.map enc)) (pds (ys.map enc)) = (xs == ys)
  | [], [] => by simp [pds, PyData.eqvAll]
  | [], _ :: _ => by simp [pds, PyData.eqvAll]
  | _ :: _, [] => by simp [pds, PyData.eqvAll]
  | x :: xs, y :: ys => by
    have e := h x y
    unfold deq at e
    simp only [List.map_cons, pds, PyData.eqvAll, e, deqs_map enc h xs ys]
    rfl
theorem deq_tup {α : Type} [BEq α] (enc : α → D) (h : ∀ x y, deq (enc x) (enc y) = (x == y)) (xs ys : List α) : deq (.tup (xs.map enc)) (.tup (ys.map enc)) = (xs == ys) := by
  have e := deqs_map enc h xs ys
  simpa only [deq, pd, PyData.eqv] using e
theorem deq_lst {α : Type} [BEq α] (enc : α → D) (h : ∀ x y, deq (enc x) (enc y) = (x == y)) (xs ys : List α) : deq (.lst (xs.map enc)) (.lst (ys.map enc)) = (xs == ys) := by
  have e := deqs_map enc h xs ys
  simpa only [deq, pd, PyData.eqv] using e
theorem deq_ints (xs ys : List Int) : deq (.tup (xs.map .int)) (.tup (ys.map .int)) = (xs == ys) := deq_tup D.int deq_int xs ys
theorem deq_intsL (xs ys : List Int) : deq (.lst (xs.map .int)) (.lst (ys.map .int)) = (xs == ys) := deq_lst D.int deq_int xs ys
theorem okDs_map {α : Type} (enc : α → D) {n : Nat} : ∀ {xs : List α}, (∀ x ∈ xs, okD n (enc x) = true) → okDs n (xs.map enc) = true
  | [], _ => by simp [okDs]
  | x :: xs, h => by simp only [List.map_cons, okDs, h x List.mem_cons_self, okDs_map enc fun y hy => h y (List.mem_cons_of_mem _ hy), Bool.and_self]
theorem okD_int {n : Nat} {i : Int} : okD n (.int i) = true := by cases n <;> rfl
theorem okD_bl {n : Nat} {i : Bool} : okD n (.bl i) = true := by cases n <;> rfl
theorem okD_tup {α : Type} (enc : α → D) {n : Nat} {xs : List α} (h : ∀ x ∈ xs, okD n (enc x) = true) : okD (n + 1) (.tup (xs.map enc)) = true := by rw [okD]; exact okDs_map enc h
theorem okD_lst {α : Type} (enc : α → D) {n : Nat} {xs : List α} (h : ∀ x ∈ xs, okD n (enc x) = true) : okD (n + 1) (.lst (xs.map enc)) = true := by rw [okD]; exact okDs_map enc h
theorem okD_ints {n : Nat} {xs : List Int} : okD (n + 1) (.tup (xs.map .int)) = true := okD_tup D.int fun _ _ => okD_int
theorem okD_intsL {n : Nat} {xs : List Int} : okD (n + 1) (.lst (xs.map .int)) = true := okD_lst D.int fun _ _ => okD_int
theorem okDs_intsN {n : Nat} {xs : List Int} : okDs n (xs.map .int) = true := okDs_map D.int fun _ _ => okD_int
/-- two things that aren't tracked, held beside each other -/
theorem fEq_tup {neg : Bool} {xs ys : List D} {g : GH} {Q : QK} (hx : okDs 63 xs = true) (hy : okDs 63 ys = true) (q : Q (.v (.bl (neg ^^ deq (.tup xs) (.tup ys)))) g) : fEq neg (.v (.tup xs)) (.v (.tup ys)) g Q :=
  ⟨_, _, rfl, rfl, by rw [R.fz_v, okD]; exact hx, by rw [R.fz_v, okD]; exact hy, q⟩
theorem fEq_ints {neg : Bool} {xs ys : List Int} {g : GH} {Q : QK} (q : Q (.v (.bl (neg ^^ (xs == ys)))) g) : fEq neg (.v (.tup (xs.map .int))) (.v (.tup (ys.map .int))) g Q :=
  fEq_tup okDs_intsN okDs_intsN (by rw [deq_ints]; exact q)
theorem fEq_bl {neg : Bool} {x y : Bool} {g : GH} {Q : QK} (q : Q (.v (.bl (neg ^^ (x == y)))) g) : fEq neg (.v (.bl x)) (.v (.bl y)) g Q :=
  ⟨_, _, rfl, rfl, okD_bl, okD_bl, q⟩
theorem atI_map_last {α β : Type} (f : α → β) {xs : List α} (h : 0 < xs.length) : ∃ x, x ∈ xs ∧ xs[xs.length - 1]? = some x ∧ L2.atI (xs.map f) (-1) = some (f x) := by
  have e : ixN (xs.map f).length (-1) = some (xs.length - 1) := by
    unfold ixN
    rw [if_neg (by omega), List.length_map, if_pos (by omega)]
    congr 1
    omega
  have hl : xs.length - 1 < xs.length := by omega
  refine ⟨xs[xs.length - 1]'hl, List.getElem_mem _, List.getElem?_eq_getElem _, ?_⟩
  unfold L2.atI
  rw [e, Option.bind_some, List.getElem?_map, List.getElem?_eq_getElem hl]
  rfl
theorem filter_take_succ {α : Type} (p : α → Bool) {xs : List α} {k : Nat} {x : α} (h : xs[k]? = some x) : (xs.take (k + 1)).filter p = (xs.take k).filter p ++ (if p x then [x] else []) := by
  rw [List.take_add_one, h, List.filter_append]
  simp [List.filter_cons]
/-! ### what is shown of data -/
/-- data nested n at the most, of a weight below w, its numbers short -/
def Sh (n w : Nat) (d : D) : Prop := okD n d = true ∧ (pd d).intsShort 13 = true ∧ (pd d).showable = true ∧ (pd d).weight ≤ w
theorem log2_12 {i : Int} (h : i.natAbs < 10 ^ 12) : i.natAbs.log2 < 40 := by
  by_cases e : i.natAbs = 0
  · rw [e]; decide
  · exact (Nat.log2_lt e).mpr (Nat.lt_trans h (by decide))
theorem Sh.int {n : Nat} {i : Int} (h : i.natAbs < 10 ^ 12) : Sh n 40 (.int i) := by
  refine ⟨okD_int, ?_, ?_, ?_⟩
  · simpa only [pd, PyData.intsShort, decide_eq_true_eq] using PyData.shown_int_le h
  · have := log2_12 h
    simp only [pd, PyData.showable, decide_eq_true_eq]; omega
  · have := log2_12 h
    simp only [pd, PyData.weight]
    split <;> omega
theorem Sh.bl {n : Nat} {b : Bool} : Sh n 0 (.bl b) := ⟨okD_bl, rfl, rfl, Nat.le_refl _⟩
theorem Sh.non {n : Nat} : Sh n 0 .non := ⟨by cases n <;> rfl, rfl, rfl, Nat.le_refl _⟩
theorem Sh.str {n w : Nat} {x : Str} (h : PyData.strOk x = true) (hw : x.length ≤ w) : Sh n w (.str x) := ⟨by cases n <;> exact h, rfl, rfl, hw⟩
theorem Sh.up {n m w u : Nat} {d : D} (h : Sh n w d) (hn : n ≤ m) (hw : w ≤ u) : Sh m u d := ⟨okD_more n m hn d h.1, h.2.1, h.2.2.1, Nat.le_trans h.2.2.2 hw⟩
theorem Sh.alls {α : Type} (enc : α → D) {n w : Nat} : ∀ {xs : List α}, (∀ x ∈ xs, Sh n w (enc x)) → okDs n (xs.map enc) = true ∧ PyData.intsShortAll 13 (pds (xs.map enc)) = true ∧ PyData.showableAll (pds (xs.map enc)) = true ∧ PyData.weightAll (pds (xs.map enc)) ≤ xs.length * (w + 1)
  | [], _ => ⟨by simp [okDs], rfl, rfl, by simp [pds, PyData.weightAll]⟩
  | x :: xs, h => by
    obtain ⟨a1, a2, a3, a4⟩ := h x List.mem_cons_self
    obtain ⟨b1, b2, b3, b4⟩ := Sh.alls enc fun y hy => h y (List.mem_cons_of_mem _ hy)
    refine ⟨by simp only [List.map_cons, okDs, a1, b1, Bool.and_self], by simp only [List.map_cons, pds, PyData.intsShortAll, a2, b2, Bool.and_self], by simp only [List.map_cons, pds, PyData.showableAll, a3, b3, Bool.and_self], ?_⟩
    simp only [List.map_cons, pds, PyData.weightAll, List.length_cons, Nat.add_mul, Nat.one_mul]
    omega
theorem Sh.tup {α : Type} (enc : α → D) {n w : Nat} {xs : List α} (h : ∀ x ∈ xs, Sh n w (enc x)) : Sh (n + 1) (xs.length * (w + 1)) (.tup (xs.map enc)) := by
  obtain ⟨b1, b2, b3, b4⟩ := Sh.alls enc h
  exact ⟨by rw [okD]; exact b1, by rw [pd, PyData.intsShort]; exact b2, by rw [pd, PyData.showable]; exact b3, by rw [pd, PyData.weight]; exact b4⟩
theorem Sh.lst {α : Type} (enc : α → D) {n w : Nat} {xs : List α} (h : ∀ x ∈ xs, Sh n w (enc x)) : Sh (n + 1) (xs.length * (w + 1)) (.lst (xs.map enc)) := by
  obtain ⟨b1, b2, b3, b4⟩ := Sh.alls enc h
  exact ⟨by rw [okD]; exact b1, by rw [pd, PyData.intsShort]; exact b2, by rw [pd, PyData.showable]; exact b3, by rw [pd, PyData.weight]; exact b4⟩
theorem Sh.len {n w : Nat} {d : D} (h : Sh n w d) (hn : n ≤ 60) (hw : w ≤ 1048576) : (pd d).shown.length ≤ sizeLine :=
  PyData.shown_fits (B := 13) (by decide) (by decide) (PyData.leavesShort_of_canLay0 13 _ (okD_lay n d h.1).1 h.2.1) (Nat.le_trans h.2.2.2 (by omega))
/-- repr of a thing that is seen as d -/
theorem repr_sh {n w : Nat} {g : GH} {z d : D} {Q : QK} (hr : resR g (.v z) d) (h : Sh n w d) (hn : n ≤ 60) (hw : w ≤ 1048576) (q : Q (.v (.str (pd d).shown)) g) : Bfn.f .repr [z] g Q :=
  ⟨d, hr, okD_more n 60 hn d h.1, h.2.2.1, h.len hn hw, q⟩
/-- isinstance of a tracked list -/
theorem isi_ref {p : Addr} {xs : List D} {g : GH} {Q : QK} (h : g p = some (.lst xs)) (q : Q (.v (.bl true)) g) : Bfn.f (.isi "list") [.ref p, .ty "list"] g Q := ⟨rfl, by decide, "list", .inl ⟨xs, h, rfl⟩, q⟩
theorem Sh.three {n w : Nat} {d : D} {P : Prop} (h : Sh n w d) (hn : n ≤ 60) (hw : w ≤ 1048576) (q : P) : okD 60 d = true ∧ (pd d).showable = true ∧ (pd d).shown.length ≤ 16777216 ∧ P :=
  ⟨okD_more n 60 hn d h.1, h.2.2.1, h.len hn hw, q⟩
theorem isiB_bb : isiB "bool" "bool" = true := by decide
theorem isiB_ll : isiB "list" "list" = true := by decide
theorem isiB_tt : isiB "tuple" "tuple" = true := by decide
theorem fEq_intsR {neg : Bool} {x y : R} {xs ys : List Int} {g : GH} {Q : QK} (hx : resR g x (.lst (xs.map .int))) (hy : resR g y (.lst (ys.map .int))) (q : Q (.v (.bl (neg ^^ (xs == ys)))) g) : fEq neg x y g Q :=
  ⟨_, _, hx, hy, okD_intsL, okD_intsL, by rw [deq_intsL]; exact q⟩
theorem resR_ref {g : GH} {p : Addr} {xs : List D} (h : g p = some (.lst xs)) : resR g (.v (.ref p)) (.lst xs) := ⟨xs, h, rfl⟩
/-! ### the same as equations, for the walk -/
theorem eIn_tI {neg : Bool} {s : Int} {xs : List Int} {g : GH} {Q : QK} : fIn neg (.v (.int s)) (.v (.tup (xs.map .int))) g Q = Q (.v (.bl (neg ^^ xs.contains s))) g :=
  propext ⟨fun ⟨a, h, _, _, q⟩ => by
    rcases h with h | h | h
    · exact h.elim
    · rw [show a = xs.map D.int from h, R.fz_v, inD_ints] at q
      cases neg <;> simpa using q
    · exact h.elim, fIn_ints⟩
theorem eIn_lI {neg : Bool} {s : Int} {xs : List Int} {g : GH} {Q : QK} : fIn neg (.v (.int s)) (.v (.lst (xs.map .int))) g Q = Q (.v (.bl (neg ^^ xs.contains s))) g :=
  propext ⟨fun ⟨a, h, _, _, q⟩ => by
    rcases h with h | h | h
    · rw [show a = xs.map D.int from h, R.fz_v, inD_ints] at q
      cases neg <;> simpa using q
    · exact h.elim
    · exact h.elim, fIn_intsL rfl⟩
theorem eIn_rI {neg : Bool} {s : Int} {xs : List Int} {p : Addr} {g : GH} {Q : QK} (hp : g p = some (.lst (xs.map .int))) : fIn neg (.v (.int s)) (.v (.ref p)) g Q = Q (.v (.bl (neg ^^ xs.contains s))) g :=
  propext ⟨fun ⟨a, h, _, _, q⟩ => by
    rcases h with h | h | h
    · have h : g p = some (.lst a) := h
      rw [hp] at h; cases h
      rw [R.fz_v, inD_ints] at q
      cases neg <;> simpa using q
    · exact h.elim
    · exact h.elim, fIn_intsL hp⟩
theorem resR_v {g : GH} {d e : D} (h : ∀ a, d ≠ .ref a) : resR g (.v d) e ↔ e = d := by cases d <;> first | exact Iff.rfl | exact absurd rfl (h _)
theorem eEq_v {neg : Bool} {x y : D} {g : GH} {Q : QK} (hx : ∀ a, x ≠ .ref a) (hy : ∀ a, y ≠ .ref a) : fEq neg (.v x) (.v y) g Q = (okD 64 x = true ∧ okD 64 y = true ∧ Q (.v (.bl (neg ^^ deq x y))) g) :=
  propext ⟨fun ⟨d, e, h1, h2, h⟩ => by rw [resR_v hx] at h1; rw [resR_v hy] at h2; subst h1 h2; exact h, fun h => ⟨x, y, (resR_v hx).mpr rfl, (resR_v hy).mpr rfl, h⟩⟩
theorem eEq_tI {neg : Bool} {xs ys : List Int} {g : GH} {Q : QK} : fEq neg (.v (.tup (xs.map .int))) (.v (.tup (ys.map .int))) g Q = Q (.v (.bl (neg ^^ (xs == ys)))) g := by
  rw [eEq_v (fun _ h => by cases h) (fun _ h => by cases h), deq_ints]
  exact propext ⟨fun h => h.2.2, fun h => ⟨okD_ints, okD_ints, h⟩⟩
theorem eEq_lI {neg : Bool} {xs ys : List Int} {g : GH} {Q : QK} : fEq neg (.v (.lst (xs.map .int))) (.v (.lst (ys.map .int))) g Q = Q (.v (.bl (neg ^^ (xs == ys)))) g := by
  rw [eEq_v (fun _ h => by cases h) (fun _ h => by cases h), deq_intsL]
  exact propext ⟨fun h => h.2.2, fun h => ⟨okD_intsL, okD_intsL, h⟩⟩
theorem eEq_tl {neg : Bool} {x : R} {ys : List D} {g : GH} {Q : QK} : fEq neg x (.tl ys) g Q = fEq neg x (.v (.lst ys)) g Q := rfl
theorem eEq_tl' {neg : Bool} {y : R} {ys : List D} {g : GH} {Q : QK} : fEq neg (.tl ys) y g Q = fEq neg (.v (.lst ys)) y g Q := rfl
theorem eEq_bl {neg : Bool} {x y : Bool} {g : GH} {Q : QK} : fEq neg (.v (.bl x)) (.v (.bl y)) g Q = Q (.v (.bl (neg ^^ (x == y)))) g := by
  rw [eEq_v (fun _ h => by cases h) (fun _ h => by cases h), deq_bl]
  exact propext ⟨fun h => h.2.2, fun h => ⟨okD_bl, okD_bl, h⟩⟩
theorem eEq_tN {neg : Bool} {xs : List Int} {g : GH} {Q : QK} : fEq neg (.v (.tup (xs.map .int))) (.v (.tup [])) g Q = Q (.v (.bl (neg ^^ (xs == [])))) g := eEq_tI (ys := [])
theorem eEq_lN {neg : Bool} {xs : List Int} {g : GH} {Q : QK} : fEq neg (.v (.lst (xs.map .int))) (.v (.lst [])) g Q = Q (.v (.bl (neg ^^ (xs == [])))) g := eEq_lI (ys := [])
theorem eEq_int {neg : Bool} {x y : Int} {g : GH} {Q : QK} : fEq neg (.v (.int x)) (.v (.int y)) g Q = Q (.v (.bl (neg ^^ (x == y)))) g := by
  rw [eEq_v (fun _ h => by cases h) (fun _ h => by cases h), deq_int]
  exact propext ⟨fun h => h.2.2, fun h => ⟨okD_int, okD_int, h⟩⟩
end G3
/-! W1: the laws' shared defs: draws -/
namespace G3
open PySem L2
local macro_rules | `(tactic| walk_at "wp") => `(tactic| simp only [wSs, wS, wE, wL, wO, wSq, wRet, wRetN, wAsg, wIf, wDrop, wFor, wPut, wNx, wArgs, wCons, wNil, wCall, wComp, wI, wB, wSeqT, wSeqL, wRng1, wRng2, wEnumL, wEnumT, wVar, wC, wBin, wUn, wNot, wAnd, wOr, wIte, wTest, wTrk, wSlc, wNoPart, wPart, fMt, List.getElem?_cons_succ, List.getElem?_cons_zero, tupOf, lstOf, gdOf, ex_eq, ex_eq', ex2_eq, ex2_eq', Bfn.f, Mth.f, compT, tgB, setAll, wipeD, wYes, List.map_cons, List.map_nil, List.set_cons_succ, List.set_cons_zero, List.length_cons, List.length_nil, Bop.f, Cop.f, Iop.f, fI2, fS2, fIx, fNeg, true_and, and_true, if_true, bodyEnds, R.fz_v, R.fz_tl, atI_0, atI_1, atI_2, atI_3, Option.some.injEq, DO.lst.injEq, decide_eq_true_eq, gup_same, gup_gup, or_false, ixN_s0, ixN_s1, ixN_s2, List.length_set, List.length_map, szl, Nat.reduceAdd, Nat.zero_add, Nat.reduceLeDiff, Nat.zero_le, Int.reduceLE, exists_eq', false_or, fAddT, fAddL, fSl, rolOf, Bool.not_true, Bool.not_false, Bool.false_eq_true, if_false, Bool.false_xor, Bool.xor_true, beq_self_eq_true, isiB_bb, isiB_ll, decide_true, isiB_tt, fIsN, isNon, wTry, wCallv, wRaise, setO, gonO, tryEnds, wMk, wMkAt, wAt, wRaiseAt, isKd, Mth.kd, eq_self, wDis, wDnK, wDnT, wDput, wPar, wRngD, wFld, wMeth, wNew, wSfld, wCh3, wPar3, wRevL, wDputM, wText, fInT, wIng, wSfld2, wDead, wLock, lckE, wLockE, wKeysL, fDIxL, fDmt, Dmt.f])
local macro_rules | `(tactic| walk_at "stp") => `(tactic| first | (rw [wHid_eq]; conv in (wSs _) => arg 1; whnf) | (conv in (wSs _) => arg 1; whnf))
local macro_rules | `(tactic| walk_at "wx") => `(tactic| simp only [wSs, wS, wE, wL, wO, wSq, wRet, wRetN, wAsg, wIf, wDrop, wFor, wPut, wNx, wArgs, wCons, wNil, wCall, wComp, wI, wB, wSeqT, wSeqL, wRng1, wRng2, wEnumL, wEnumT, wVar, wC, wBin, wUn, wNot, wAnd, wOr, wIte, wTest, wTrk, wSlc, wNoPart, wPart, fMt, List.getElem?_cons_succ, List.getElem?_cons_zero, tupOf, lstOf, gdOf, ex_eq, ex_eq', ex2_eq, ex2_eq', Bfn.f, Mth.f, compT, tgB, setAll, wipeD, wYes, List.map_cons, List.map_nil, List.set_cons_succ, List.set_cons_zero, List.length_cons, List.length_nil, Bop.f, Cop.f, Iop.f, fI2, fS2, fIx, fNeg, true_and, and_true, if_true, bodyEnds, R.fz_v, R.fz_tl, atI_0, atI_1, atI_2, atI_3, Option.some.injEq, DO.lst.injEq, decide_eq_true_eq, gup_same, gup_gup, or_false, ixN_s0, ixN_s1, ixN_s2, List.length_set, List.length_map, szl, Nat.reduceAdd, Nat.zero_add, Nat.reduceLeDiff, Nat.zero_le, Int.reduceLE, exists_eq', false_or, fAddT, fAddL, fSl, rolOf, Bool.not_true, Bool.not_false, Bool.false_eq_true, if_false, Bool.false_xor, Bool.xor_true, beq_self_eq_true, isiB_bb, isiB_ll, decide_true, isiB_tt, fIsN, isNon, wTry, wCallv, wRaise, setO, gonO, tryEnds, wMk, wMkAt, wAt, wRaiseAt, isKd, Mth.kd, eq_self, wDis, wDnK, wDnT, wDput, wPar, wRngD, wFld, wMeth, wNew, wSfld, wCh3, wPar3, wRevL, wDputM, wText, fInT, wIng, wSfld2, wDead, wLock, lckE, wLockE, wKeysL, fDIxL, fDmt, Dmt.f, eIn_tI, eIn_lI, eEq_tI, eEq_lI, eEq_tl, eEq_tl', eEq_bl, eEq_tN, eEq_lN, fIsE, Ufn.f, fSSet, fLSet, if_true, if_false, Bool.true_xor, Bool.xor_false, seqOf, fIxA, fSlA, fAddA, fInA, wSeqA, wEnumA, isKd, Mth.kd, fB2, okD_int, okD_bl, okDs_intsN, inD_ints, fRepL, fAddS, fIxS, eEq_int, wCh, fLRng, fRevT, fRow2, fTRng, fLSetT, fMaxD, wStp, fLz, wLockX, wDisE, Tfn.f, fDEq, fDInL, fDIxA])
theorem gle_rfl {g : GH} : ∀ b o, g b = some o → g b = some o := fun _ _ h => h
theorem gle_up {g g' : GH} {p : Addr} {u : DO} (h : ∀ b o, g b = some o → g' b = some o) (f : g' p = none) : ∀ b o, g b = some o → gup g' p u b = some o := fun b o e => by
  have q := h b o e
  rw [gup_ne fun z => by rw [z, f] at q; cases q]
  exact q
/-- the feed: its cells, the next one's number (below n), what is left of a cell -/
def FeedO (o : DO) (n : Int) : Prop := ∃ (cells : List Int) (at_ rest : Int), o = .lst [.lst (cells.map .int), .int at_, .int rest] ∧ 0 ≤ at_ ∧ at_ ≤ n ∧ 0 ≤ rest
def n_law_smixed : List Str := ["cell", "at", "one", "two", "three"]
def b_law_smixed : Sl := .cons (.asg (.nm 2) (.bin .modI (.bin .addI (.bin .addI (.bin .mulI (.bin .modI (.var 0) (.cst (.int 2147483647))) (.cst (.int 48271))) (.bin .mulI (.var 1) (.cst (.int 7919)))) (.cst (.int 11))) (.cst (.int 2147483629)))) (.cons (.asg (.nm 3) (.bin .modI (.bin .addI (.bin .addI (.bin .mulI (.var 2) (.var 2)) (.bin .mulI (.bin .mulI (.var 1) (.var 1)) (.cst (.int 31)))) (.cst (.int 5))) (.cst (.int 2147483587)))) (.cons (.asg (.nm 4) (.bin .modI (.bin .addI (.bin .addI (.bin .mulI (.var 3) (.var 3)) (.var 2)) (.var 1)) (.cst (.int 2147483563)))) (.cons (.ret (.bin .addI (.bin .mulI (.bin .addI (.bin .mulI (.var 4) (.cst (.int 2147483629))) (.var 3)) (.cst (.int 2147483587))) (.var 2))) (.nil))))
def sp_law_smixed : GSp := fun ds g Q _ => ∃ cell at_ : Int, ds = [.int cell, .int at_] ∧ 0 ≤ at_ ∧ at_ < 2 ^ 62 ∧ ∀ r : Int, 0 ≤ r → Q (.v (.int r)) g
theorem w_law_smixed : ∀ ds g Q W, sp_law_smixed ds g Q W → wSs b_law_smixed (bodyEnds g Q W) (startD 5 ds) g := by
  rintro ds g Q W ⟨cell, at_, rfl, h0, h1, h⟩
  change wSs _ _ [some _, some _, none, none, none] g
  rw [b_law_smixed]
  walk_at "wp"
  have m : ∀ (x n : Int), 0 < n → 0 ≤ x % n ∧ x % n < n := fun x n hn => ⟨Int.emod_nonneg x (by omega), Int.emod_lt_of_pos x hn⟩
  have a1 := m cell 2147483647 (by decide)
  have a2 := m (cell % 2147483647 * 48271 + at_ * 7919 + 11) 2147483629 (by decide)
  generalize (cell % 2147483647 * 48271 + at_ * 7919 + 11) % 2147483629 = one at *
  have a3 := m (one * one + at_ * at_ * 31 + 5) 2147483587 (by decide)
  generalize (one * one + at_ * at_ * 31 + 5) % 2147483587 = two at *
  have a4 := m (two * two + one + at_) 2147483563 (by decide)
  generalize (two * two + one + at_) % 2147483563 = three at *
  generalize cell % 2147483647 = z at *
  have l : ∀ {i j : Int}, 0 ≤ i → i < 2 ^ 63 → CMul i j := fun h1 h2 => .inl ⟨by omega, by omega⟩
  have r : ∀ {i j : Int}, 0 ≤ j → j < 2 ^ 63 → CMul i j := fun h1 h2 => .inr ⟨by omega, by omega⟩
  refine ⟨by decide, r (by decide) (by decide), r (by decide) (by decide), by decide, r (by omega) (by omega), r (by omega) (by omega), r (by decide) (by decide), by decide, r (by omega) (by omega), by decide, r (by decide) (by decide), r (by decide) (by decide), .same (h _ ?_)⟩
  omega
def n_law_sdraw : List Str := ["feed", "many", "digit", "at", "cell"]
def b_law_sdraw_10 : Sl := .cons (.asg (.nm 2) (.bin .modI (.idx .l (.var 0) (.cst (.int 2))) (.var 1))) (.cons (.put (.var 0) (.cst (.int 2)) (.bin .fdivI (.idx .l (.var 0) (.cst (.int 2))) (.var 1))) (.cons (.ret (.var 2)) (.nil)))
def b_law_sdraw_6 : Sl := .cons (.put (.var 0) (.cst (.int 1)) (.bin .addI (.var 3) (.cst (.int 1)))) (.cons (.put (.var 0) (.cst (.int 2)) (.var 4)) (.cons (.ifs (.or (.cmp .ltI (.var 4) (.bin .powI (.cst (.int 10)) (.cst (.int 18)))) (.cmp .geI (.var 3) (.blf .len (.cons (.idx .l (.var 0) (.cst (.int 0))) (.nil))))) (.cons (.put (.var 0) (.cst (.int 2)) (.call "_law_smixed" sp_law_smixed (.cons (.var 4) (.cons (.var 3) (.nil))))) (.nil)) (.nil)) (.nil)))
def b_law_sdraw : Sl := .cons (.ifs (.cmp .ltI (.idx .l (.var 0) (.cst (.int 2))) (.var 1)) (.cons (.asg (.nm 3) (.idx .l (.var 0) (.cst (.int 1)))) (.cons (.asg (.nm 4) (.bin .mulI (.var 3) (.cst (.int 101)))) (.cons (.ifs (.cmp .gtI (.blf .len (.cons (.idx .l (.var 0) (.cst (.int 0))) (.nil))) (.cst (.int 0))) (.cons (.asg (.nm 4) (.idx .l (.idx .l (.var 0) (.cst (.int 0))) (.bin .modI (.var 3) (.blf .len (.cons (.idx .l (.var 0) (.cst (.int 0))) (.nil)))))) (.nil)) (.nil)) (b_law_sdraw_6)))) (.nil)) (b_law_sdraw_10)
def sp_law_sdraw : GSp := fun ds g Q _ => ∃ (p : Addr) (o : DO) (n many : Int), ds = [.ref p, .int many] ∧ g p = some o ∧ FeedO o n ∧ n + 1 < 2 ^ 62 ∧ 1 ≤ many ∧ many < 1073741824 ∧
  ∀ (d : Int) (o' : DO), 0 ≤ d → d < many → FeedO o' (n + 1) → Q (.v (.int d)) (gup g p o')
theorem w_law_sdraw : ∀ ds g Q W, sp_law_sdraw ds g Q W → wSs b_law_sdraw (bodyEnds g Q W) (startD 5 ds) g := by
  rintro ds g Q W ⟨p, o, n, many, rfl, hp, ⟨cells, at_, rest, rfl, ha0, han, hr⟩, hn, hm1, hm2, h⟩
  change wSs _ _ [some _, some _, none, none, none] g
  -- the end: what is left is parted
  have fin : ∀ (at' rest' : Int) (g' : GH) (x3 x4 : Option D), 0 ≤ at' → at' ≤ n + 1 → 0 ≤ rest' → g' = gup g p (.lst [.lst (cells.map .int), .int at', .int rest']) →
      wSs b_law_sdraw_10 (bodyEnds g Q W) [some (.ref p), some (.int many), none, x3, x4] g' := by
    rintro at' rest' g' x3 x4 h1 h2 h3 rfl
    rw [b_law_sdraw_10]
    walk_at "wp"
    refine ⟨by omega, ⟨by omega, hm2⟩, .same ?_⟩
    refine h _ _ (Int.emod_nonneg _ (by omega)) (Int.emod_lt_of_pos _ (by omega)) ⟨cells, at', rest' / many, rfl, h1, h2, Int.ediv_nonneg h3 (by omega)⟩
  have mid : ∀ c : Int, wSs b_law_sdraw_6 { bodyEnds g Q W with nx := wSs b_law_sdraw_10 (bodyEnds g Q W) } [some (.ref p), some (.int many), none, some (.int at_), some (.int c)] g := by
    intro c
    rw [b_law_sdraw_6]
    simp only [hp, wSs, wS, wE, wL, wO, wSq, wRet, wRetN, wAsg, wIf, wDrop, wFor, wPut, wNx, wArgs, wCons, wNil, wCall, wComp, wI, wB, wSeqT, wSeqL, wRng1, wRng2, wEnumL, wEnumT, wVar, wC, wBin, wUn, wNot, wAnd, wOr, wIte, wTest, wTrk, wSlc, wNoPart, wPart, fMt, List.getElem?_cons_succ, List.getElem?_cons_zero, tupOf, lstOf, gdOf, ex_eq, ex_eq', ex2_eq, ex2_eq', Bfn.f, Mth.f, compT, tgB, setAll, wipeD, wYes, List.map_cons, List.map_nil, List.set_cons_succ, List.set_cons_zero, List.length_cons, List.length_nil, Bop.f, Cop.f, Iop.f, fI2, fS2, fIx, fNeg, true_and, and_true, if_true, bodyEnds, R.fz_v, R.fz_tl, atI_0, atI_1, atI_2, atI_3, Option.some.injEq, DO.lst.injEq, decide_eq_true_eq, gup_same, gup_gup, or_false, ixN_s0, ixN_s1, ixN_s2, List.length_set, List.length_map, szl, Nat.reduceAdd, Nat.zero_add, Nat.reduceLeDiff, Nat.zero_le, Int.reduceLE, exists_eq', false_or, fAddT, fAddL, fSl, rolOf, Bool.not_true, Bool.not_false, Bool.false_eq_true, if_false, Bool.false_xor, Bool.xor_true, beq_self_eq_true, isiB_bb, isiB_ll, decide_true, isiB_tt, fIsN, isNon, wTry, wCallv, wRaise, setO, gonO, tryEnds, wMk, wMkAt, wAt, wRaiseAt, isKd, Mth.kd, eq_self, wDis, wDnK, wDnT, wDput, wPar, wRngD, wFld, wMeth, wNew, wSfld, wCh3, wPar3, wRevL, wDputM, wText, fInT, wIng, wSfld2, wDead, wLock, lckE, wLockE, wKeysL, fDIxL, fDmt, Dmt.f]
    have mx : sp_law_smixed [D.int c, D.int at_] (gup g p (DO.lst [D.lst (List.map D.int cells), D.int (at_ + 1), D.int c])) (fun r g1 => ∃ xs j, g1 p = some (DO.lst xs) ∧ ixN xs.length 2 = some j ∧ wSs b_law_sdraw_10 (bodyEnds g Q W) [some (D.ref p), some (D.int many), none, some (D.int at_), some (D.int c)] (gup g1 p (DO.lst (xs.set j r.fz))))
        (fun x g4 => XRet W x [some (D.ref p), some (D.int many), none, some (D.int at_), some (D.int c)] g4) := by
      refine ⟨c, at_, rfl, ha0, by omega, fun r hr => ?_⟩
      walk_at "wp"
      exact fin (at_ + 1) r _ _ _ (by omega) (by omega) hr rfl
    refine ⟨⟨by decide, by decide⟩, ?_⟩
    split
    · exact mx
    · split
      · exact mx
      · rename_i h1 _
        exact fin (at_ + 1) c _ _ _ (by omega) (by omega) (by have : ((10 : Int) ^ Int.toNat 18) = 1000000000000000000 := by decide
                                                              omega) rfl
  rw [b_law_sdraw]
  simp only [hp, wSs, wS, wE, wL, wO, wSq, wRet, wRetN, wAsg, wIf, wDrop, wFor, wPut, wNx, wArgs, wCons, wNil, wCall, wComp, wI, wB, wSeqT, wSeqL, wRng1, wRng2, wEnumL, wEnumT, wVar, wC, wBin, wUn, wNot, wAnd, wOr, wIte, wTest, wTrk, wSlc, wNoPart, wPart, fMt, List.getElem?_cons_succ, List.getElem?_cons_zero, tupOf, lstOf, gdOf, ex_eq, ex_eq', ex2_eq, ex2_eq', Bfn.f, Mth.f, compT, tgB, setAll, wipeD, wYes, List.map_cons, List.map_nil, List.set_cons_succ, List.set_cons_zero, List.length_cons, List.length_nil, Bop.f, Cop.f, Iop.f, fI2, fS2, fIx, fNeg, true_and, and_true, if_true, bodyEnds, R.fz_v, R.fz_tl, atI_0, atI_1, atI_2, atI_3, Option.some.injEq, DO.lst.injEq, decide_eq_true_eq, gup_same, gup_gup, or_false, ixN_s0, ixN_s1, ixN_s2, List.length_set, List.length_map, szl, Nat.reduceAdd, Nat.zero_add, Nat.reduceLeDiff, Nat.zero_le, Int.reduceLE, exists_eq', false_or, fAddT, fAddL, fSl, rolOf, Bool.not_true, Bool.not_false, Bool.false_eq_true, if_false, Bool.false_xor, Bool.xor_true, beq_self_eq_true, isiB_bb, isiB_ll, decide_true, isiB_tt, fIsN, isNon, wTry, wCallv, wRaise, setO, gonO, tryEnds, wMk, wMkAt, wAt, wRaiseAt, isKd, Mth.kd, eq_self, wDis, wDnK, wDnT, wDput, wPar, wRngD, wFld, wMeth, wNew, wSfld, wCh3, wPar3, wRevL, wDputM, wText, fInT, wIng, wSfld2, wDead, wLock, lckE, wLockE, wKeysL, fDIxL, fDmt, Dmt.f]
  split
  · refine ⟨.inr ⟨by decide, by decide⟩, ?_⟩
    split
    · rename_i hl
      refine ⟨hl, ?_⟩
      obtain ⟨x, -, -, h2⟩ := atI_map D.int (xs := cells) (Int.emod_nonneg at_ (show (cells.length : Int) ≠ 0 by omega)) (Int.emod_lt_of_pos at_ hl)
      exact ⟨_, h2, mid x⟩
    · exact mid _
  · exact fin at_ rest _ _ _ ha0 (by omega) hr (gup_self hp).symm

theorem FeedO.up {o : DO} {n m : Int} (h : FeedO o n) (hm : n ≤ m) : FeedO o m := by
  obtain ⟨c, a, r, e, h1, h2, h3⟩ := h
  exact ⟨c, a, r, e, h1, by omega, h3⟩
def n_law_sopen : List Str := ["script"]
def b_law_sopen : Sl := .cons (.ret (.lst (.cons (.blf .list (.cons (.slc .l (.var 0) (.no) (.so (.cst (.int 60)))) (.nil))) (.cons (.cst (.int 0)) (.cons (.cst (.int 0)) (.nil)))))) (.nil)
def sp_law_sopen : GSp := fun ds g Q _ => ∃ ns : List Int, ds = [.rl (ns.map .int)] ∧ ∀ cells : List Int, Q (.tl [.lst (cells.map .int), .int 0, .int 0]) g
theorem w_law_sopen : ∀ ds g Q W, sp_law_sopen ds g Q W → wSs b_law_sopen (bodyEnds g Q W) (startD 1 ds) g := by
  rintro ds g Q W ⟨ns, rfl, h⟩
  change wSs _ _ [some _] g
  rw [b_law_sopen]
  walk_at "wp"
  refine .same ?_
  rw [cutD_map]
  exact h _
def n_law_sthings : List Str := ["feed", "least", "most", "left", "many", "some", "turn"]
def b_law_sthings_5 : Sl := .cons (.expr (.mth .append (.var 5) (.cons (.mth .popAt (.var 3) (.cons (.call "_law_sdraw" sp_law_sdraw (.cons (.var 0) (.cons (.blf .len (.cons (.var 3) (.nil))) (.nil)))) (.nil))) (.nil)))) (.nil)
def b_law_sthings : Sl := .cons (.asg (.nm 3) (.trk (.lst (.cons (.cst (.int 1)) (.cons (.cst (.int 2)) (.cons (.cst (.int 3)) (.cons (.cst (.int 4)) (.cons (.cst (.int 5)) (.cons (.cst (.int 6)) (.cons (.cst (.int 7)) (.cons (.cst (.int 8)) (.nil)))))))))))) (.cons (.asg (.nm 4) (.bin .addI (.var 1) (.call "_law_sdraw" sp_law_sdraw (.cons (.var 0) (.cons (.bin .subI (.bin .addI (.var 2) (.cst (.int 1))) (.var 1)) (.nil)))))) (.cons (.asg (.nm 5) (.trk (.lst (.nil)))) (.cons (.for_ (.rng1 (.cons (.var 4) (.nil))) (.nm 6) (b_law_sthings_5)) (.cons (.ret (.var 5)) (.nil)))))
def sp_law_sthings : GSp := fun ds g Q _ => ∃ (p : Addr) (o : DO) (n least most : Int), ds = [.ref p, .int least, .int most] ∧ g p = some o ∧ FeedO o n ∧ n + 9 < 2 ^ 62 ∧ 0 ≤ least ∧ least ≤ most ∧ most ≤ 8 ∧
  ∀ (xs left : List Int) (o' : DO), (xs ++ left).Perm [1, 2, 3, 4, 5, 6, 7, 8] → least ≤ xs.length → xs.length ≤ most → FeedO o' (n + 9) → Q (.tl (xs.map .int)) (gup g p o')
theorem w_law_sthings : ∀ ds g Q W, sp_law_sthings ds g Q W → wSs b_law_sthings (bodyEnds g Q W) (startD 7 ds) g := by
  rintro ds g Q W ⟨p, o, n, least, most, rfl, hp, hf, hn, hl0, hlm, hm, h⟩
  change wSs _ _ [some _, some _, some _, none, none, none, none] g
  rw [b_law_sthings]
  walk_at "wp"
  intro pl hpl
  have npl : p ≠ pl := fun e => by rw [e, hpl] at hp; cases hp
  refine ⟨p, o, n, _, rfl, by rw [gup_ne npl, hp], hf, by omega, by omega, by omega, fun d o' hd0 hd1 hf' => ?_⟩
  walk_at "wp"
  intro ps hps
  rw [gup_swap npl.symm] at hps ⊢
  have nps : p ≠ ps := fun e => by rw [← e, gup_ne npl, gup_same] at hps; cases hps
  have nls : pl ≠ ps := fun e => by rw [← e, gup_same] at hps; cases hps
  have gps : g ps = none := by rw [gup_ne nls.symm, gup_ne nps.symm] at hps; exact hps
  refine ⟨by omega, by omega, ?_⟩
  refine forW_rng (fun k ρ g' => ∃ (o : DO) (left xs : List Int) (x : Option D), FeedO o (n + 1 + k) ∧ (xs ++ left).Perm [1, 2, 3, 4, 5, 6, 7, 8] ∧ xs.length = k ∧
    ρ = [some (.ref p), some (.int least), some (.int most), some (.ref pl), some (.int (least + d)), some (.ref ps), x] ∧ g' = gup (gup (gup g p o) pl (.lst (left.map .int))) ps (.lst (xs.map .int))) ?_ ?_ ?_
  · exact ⟨o', [1, 2, 3, 4, 5, 6, 7, 8], [], none, by simpa using hf', by simp, rfl, rfl, rfl⟩
  · rintro i hi ρ g' ⟨o1, left, xs, x, hf1, hpm, hx, rfl, rfl⟩ N hN
    have hlen := hpm.length_eq
    simp only [List.length_append, List.length_cons, List.length_nil] at hlen
    rw [b_law_sthings_5]
    simp only [gup_ne npl, gup_ne nps, gup_ne nls, wSs, wS, wE, wL, wO, wSq, wRet, wRetN, wAsg, wIf, wDrop, wFor, wPut, wNx, wArgs, wCons, wNil, wCall, wComp, wI, wB, wSeqT, wSeqL, wRng1, wRng2, wEnumL, wEnumT, wVar, wC, wBin, wUn, wNot, wAnd, wOr, wIte, wTest, wTrk, wSlc, wNoPart, wPart, fMt, List.getElem?_cons_succ, List.getElem?_cons_zero, tupOf, lstOf, gdOf, ex_eq, ex_eq', ex2_eq, ex2_eq', Bfn.f, Mth.f, compT, tgB, setAll, wipeD, wYes, List.map_cons, List.map_nil, List.set_cons_succ, List.set_cons_zero, List.length_cons, List.length_nil, Bop.f, Cop.f, Iop.f, fI2, fS2, fIx, fNeg, true_and, and_true, if_true, bodyEnds, R.fz_v, R.fz_tl, atI_0, atI_1, atI_2, atI_3, Option.some.injEq, DO.lst.injEq, decide_eq_true_eq, gup_same, gup_gup, or_false, ixN_s0, ixN_s1, ixN_s2, List.length_set, List.length_map, szl, Nat.reduceAdd, Nat.zero_add, Nat.reduceLeDiff, Nat.zero_le, Int.reduceLE, exists_eq', false_or, fAddT, fAddL, fSl, rolOf, Bool.not_true, Bool.not_false, Bool.false_eq_true, if_false, Bool.false_xor, Bool.xor_true, beq_self_eq_true, isiB_bb, isiB_ll, decide_true, isiB_tt, fIsN, isNon, wTry, wCallv, wRaise, setO, gonO, tryEnds, wMk, wMkAt, wAt, wRaiseAt, isKd, Mth.kd, eq_self, wDis, wDnK, wDnT, wDput, wPar, wRngD, wFld, wMeth, wNew, wSfld, wCh3, wPar3, wRevL, wDputM, wText, fInT, wIng, wSfld2, wDead, wLock, lckE, wLockE, wKeysL, fDIxL, fDmt, Dmt.f]
    refine ⟨p, o1, _, _, rfl, by simp only [gup_ne npl, gup_ne nps, gup_same], hf1, by omega, by omega, by omega, fun d2 o2 h0 h1 hf2 => ?_⟩
    obtain ⟨k, rfl, hk, e⟩ := seqIndex_lt h0 h1
    rw [gup_in2 npl nps]
    refine ⟨left.map .int, k, .int left[k], by rw [gup_ne nls, gup_same], by omega, by omega, by rw [List.length_map]; exact e, by rw [List.getElem?_map, List.getElem?_eq_getElem hk]; rfl, ?_⟩
    rw [gup_in1 nls]
    walk_at "wp"
    refine ⟨by omega, ?_⟩
    refine hN _ _ ⟨o2, left.eraseIdx k, xs ++ [left[k]], _, hf2.up (by omega), ?_, by simp [hx], rfl, ?_⟩
    · refine List.Perm.trans ?_ hpm
      rw [List.append_assoc]
      exact (erase_perm hk).append_left xs
    · simp [erase_map]
  · rintro ρ g' ⟨o1, left, xs, x, hf1, hpm, hx, rfl, rfl⟩
    walk_at "wp"
    refine RetOk.tl (ds := xs.map .int) (g'' := gup g p o1) gup_same gps (by rw [gup_ne nps.symm, gps]) (fun b u e => ?_) (h xs left o1 hpm (by omega) (by omega) (hf1.up (by omega)))
    have e1 : b ≠ ps := fun k => by rw [k, gup_ne nps.symm, gps] at e; cases e
    have e2 : b ≠ pl := fun k => by rw [k, gup_ne npl.symm, hpl] at e; cases e
    rw [gup_ne e1, gup_ne e2, e]

/-- a claim about some of the things: its numbers in order, each about another thing -/
def ClaimOf (things zs : List Int) : Prop := ∃ left, ((zs.map fun z => (z.natAbs : Int)) ++ left).Perm things ∧ zs.Pairwise (· ≤ ·)
theorem ClaimOf.len {things zs : List Int} (h : ClaimOf things zs) : zs.length ≤ things.length := by
  obtain ⟨left, h, -⟩ := h
  have := h.length_eq
  simp only [List.length_append, List.length_map] at this
  omega
theorem ClaimOf.mem {things zs : List Int} (h : ClaimOf things zs) {z : Int} (hz : z ∈ zs) : (z.natAbs : Int) ∈ things := by
  obtain ⟨left, h, -⟩ := h
  exact h.mem_iff.mp (List.mem_append_left _ (List.mem_map_of_mem hz))
def n_law_sclaim : List Str := ["feed", "things", "most", "left", "says", "turn", "thing"]
def b_law_sclaim_6 : Sl := .cons (.ret (.blf .tuple (.cons (.blf .sorted (.cons (.var 4) (.nil))) (.nil)))) (.nil)
def b_law_sclaim_4 : Sl := .cons (.asg (.nm 6) (.mth .popAt (.var 3) (.cons (.call "_law_sdraw" sp_law_sdraw (.cons (.var 0) (.cons (.blf .len (.cons (.var 3) (.nil))) (.nil)))) (.nil)))) (.cons (.expr (.mth .append (.var 4) (.cons (.idx .l (.lst (.cons (.var 6) (.cons (.bin .subI (.cst (.int 0)) (.var 6)) (.nil)))) (.call "_law_sdraw" sp_law_sdraw (.cons (.var 0) (.cons (.cst (.int 2)) (.nil))))) (.nil)))) (.nil))
def b_law_sclaim : Sl := .cons (.asg (.nm 3) (.trk (.blf .list (.cons (.var 1) (.nil))))) (.cons (.asg (.nm 4) (.trk (.lst (.nil)))) (.cons (.for_ (.rng1 (.cons (.blf .min2 (.cons (.blf .len (.cons (.var 3) (.nil))) (.cons (.call "_law_sdraw" sp_law_sdraw (.cons (.var 0) (.cons (.bin .addI (.var 2) (.cst (.int 1))) (.nil)))) (.nil)))) (.nil))) (.nm 5) (b_law_sclaim_4)) (b_law_sclaim_6)))
def sp_law_sclaim : GSp := fun ds g Q _ => ∃ (p : Addr) (o : DO) (n most : Int) (things : List Int), ds = [.ref p, .lst (things.map .int), .int most] ∧ g p = some o ∧ FeedO o n ∧ n + 17 < 2 ^ 62 ∧ 0 ≤ most ∧ most ≤ 1000 ∧ things.length ≤ 8 ∧ (∀ x ∈ things, 1 ≤ x) ∧
  ∀ (zs : List Int) (o' : DO), ClaimOf things zs → zs.length ≤ most → FeedO o' (n + 17) → Q (.v (.tup (zs.map .int))) (gup g p o')
theorem w_law_sclaim : ∀ ds g Q W, sp_law_sclaim ds g Q W → wSs b_law_sclaim (bodyEnds g Q W) (startD 7 ds) g := by
  rintro ds g Q W ⟨p, o, n, most, things, rfl, hp, hf, hn, hm0, hm1, ht, hpos, h⟩
  change wSs _ _ [some _, some _, some _, none, none, none, none] g
  rw [b_law_sclaim]
  walk_at "wp"
  intro pl hpl ps hps
  have npl : p ≠ pl := fun e => by rw [e, hpl] at hp; cases hp
  have nls : pl ≠ ps := fun e => by rw [← e, gup_same] at hps; cases hps
  have gps : g ps = none := by rw [gup_ne nls.symm] at hps; exact hps
  have nps : p ≠ ps := fun e => by rw [← e, hp] at gps; cases gps
  refine ⟨things.map .int, by rw [gup_ne nls, gup_same], p, o, n, _, rfl, by rw [gup_ne nps, gup_ne npl, hp], hf, by omega, by omega, by omega, fun d o' hd0 hd1 hf' => ?_⟩
  walk_at "wp"
  rw [gup_up2 npl nps]
  have hmn : (if d < (things.length : Int) then d else (things.length : Int)) ≤ things.length ∧ 0 ≤ (if d < (things.length : Int) then d else (things.length : Int)) ∧ (if d < (things.length : Int) then d else (things.length : Int)) ≤ d := by split <;> omega
  generalize (if d < (things.length : Int) then d else (things.length : Int)) = m at *
  refine ⟨by omega, by omega, ?_⟩
  refine forW_rng (fun k ρ g' => ∃ (o : DO) (left says : List Int) (x y : Option D), FeedO o (n + 1 + 2 * k) ∧ ((says.map fun z => (z.natAbs : Int)) ++ left).Perm things ∧ says.length = k ∧
    ρ = [some (.ref p), some (.lst (things.map .int)), some (.int most), some (.ref pl), some (.ref ps), x, y] ∧ g' = gup (gup (gup g p o) pl (.lst (left.map .int))) ps (.lst (says.map .int))) ?_ ?_ ?_
  · exact ⟨o', things, [], none, none, by simpa using hf', by simp, rfl, rfl, rfl⟩
  · rintro i hi ρ g' ⟨o1, left, says, x, y, hf1, hpm, hx, rfl, rfl⟩ N hN
    have hlen := hpm.length_eq
    simp only [List.length_append, List.length_map] at hlen
    rw [b_law_sclaim_4]
    simp only [gup_ne npl, gup_ne nps, gup_ne nls, wSs, wS, wE, wL, wO, wSq, wRet, wRetN, wAsg, wIf, wDrop, wFor, wPut, wNx, wArgs, wCons, wNil, wCall, wComp, wI, wB, wSeqT, wSeqL, wRng1, wRng2, wEnumL, wEnumT, wVar, wC, wBin, wUn, wNot, wAnd, wOr, wIte, wTest, wTrk, wSlc, wNoPart, wPart, fMt, List.getElem?_cons_succ, List.getElem?_cons_zero, tupOf, lstOf, gdOf, ex_eq, ex_eq', ex2_eq, ex2_eq', Bfn.f, Mth.f, compT, tgB, setAll, wipeD, wYes, List.map_cons, List.map_nil, List.set_cons_succ, List.set_cons_zero, List.length_cons, List.length_nil, Bop.f, Cop.f, Iop.f, fI2, fS2, fIx, fNeg, true_and, and_true, if_true, bodyEnds, R.fz_v, R.fz_tl, atI_0, atI_1, atI_2, atI_3, Option.some.injEq, DO.lst.injEq, decide_eq_true_eq, gup_same, gup_gup, or_false, ixN_s0, ixN_s1, ixN_s2, List.length_set, List.length_map, szl, Nat.reduceAdd, Nat.zero_add, Nat.reduceLeDiff, Nat.zero_le, Int.reduceLE, exists_eq', false_or, fAddT, fAddL, fSl, rolOf, Bool.not_true, Bool.not_false, Bool.false_eq_true, if_false, Bool.false_xor, Bool.xor_true, beq_self_eq_true, isiB_bb, isiB_ll, decide_true, isiB_tt, fIsN, isNon, wTry, wCallv, wRaise, setO, gonO, tryEnds, wMk, wMkAt, wAt, wRaiseAt, isKd, Mth.kd, eq_self, wDis, wDnK, wDnT, wDput, wPar, wRngD, wFld, wMeth, wNew, wSfld, wCh3, wPar3, wRevL, wDputM, wText, fInT, wIng, wSfld2, wDead, wLock, lckE, wLockE, wKeysL, fDIxL, fDmt, Dmt.f]
    refine ⟨p, o1, _, _, rfl, by simp only [gup_ne npl, gup_ne nps, gup_same], hf1, by omega, by omega, by omega, fun d2 o2 h0 h1 hf2 => ?_⟩
    obtain ⟨k, rfl, hk, e⟩ := seqIndex_lt h0 h1
    rw [gup_in2 npl nps]
    have hl1 : 1 ≤ left[k] := hpos _ (hpm.mem_iff.mp (List.mem_append_right _ (List.getElem_mem hk)))
    refine ⟨left.map .int, k, .int left[k], by rw [gup_ne nls, gup_same], by omega, by omega, by rw [List.length_map]; exact e, by rw [List.getElem?_map, List.getElem?_eq_getElem hk]; rfl, ?_⟩
    rw [gup_in1 nls]
    walk_at "wp"
    refine ⟨p, o2, _, _, rfl, by simp only [gup_ne npl, gup_ne nps, gup_same], hf2, by omega, by omega, by omega, fun d3 o3 h0 h1 hf3 => ?_⟩
    rw [gup_in2 npl nps]
    obtain ⟨z, hz, ez⟩ : ∃ z : Int, (z.natAbs : Int) = left[k] ∧ L2.atI [D.int left[k], D.int (0 - left[k])] d3 = some (.int z) := by
      rcases (by omega : d3 = 0 ∨ d3 = 1) with rfl | rfl
      · exact ⟨left[k], by omega, by rw [atI_0]⟩
      · exact ⟨0 - left[k], by omega, by rw [atI_1]⟩
    refine ⟨_, ez, says.map .int, gup_same, by rw [List.length_map]; omega, ?_⟩
    refine hN _ _ ⟨o3, left.eraseIdx k, says ++ [z], _, _, hf3.up (by omega), ?_, by simp [hx], rfl, ?_⟩
    · refine List.Perm.trans ?_ hpm
      rw [List.map_append, List.append_assoc, List.map_cons, hz]
      exact (erase_perm hk).append_left _
    · simp [erase_map]
  · rintro ρ g' ⟨o1, left, says, x, y, hf1, hpm, hx, rfl, rfl⟩
    simp only [b_law_sclaim_6, wSs, wS, wE, wL, wO, wSq, wRet, wRetN, wAsg, wIf, wDrop, wFor, wPut, wNx, wArgs, wCons, wNil, wCall, wComp, wI, wB, wSeqT, wSeqL, wRng1, wRng2, wEnumL, wEnumT, wVar, wC, wBin, wUn, wNot, wAnd, wOr, wIte, wTest, wTrk, wSlc, wNoPart, wPart, fMt, List.getElem?_cons_succ, List.getElem?_cons_zero, tupOf, lstOf, gdOf, ex_eq, ex_eq', ex2_eq, ex2_eq', Bfn.f, Mth.f, compT, tgB, setAll, wipeD, wYes, List.map_cons, List.map_nil, List.set_cons_succ, List.set_cons_zero, List.length_cons, List.length_nil, Bop.f, Cop.f, Iop.f, fI2, fS2, fIx, fNeg, true_and, and_true, if_true, bodyEnds, R.fz_v, R.fz_tl, atI_0, atI_1, atI_2, atI_3, Option.some.injEq, DO.lst.injEq, decide_eq_true_eq, gup_same, gup_gup, or_false, ixN_s0, ixN_s1, ixN_s2, List.length_set, List.length_map, szl, Nat.reduceAdd, Nat.zero_add, Nat.reduceLeDiff, Nat.zero_le, Int.reduceLE, exists_eq', false_or, fAddT, fAddL, fSl, rolOf, Bool.not_true, Bool.not_false, Bool.false_eq_true, if_false, Bool.false_xor, Bool.xor_true, beq_self_eq_true, isiB_bb, isiB_ll, decide_true, isiB_tt, fIsN, isNon, wTry, wCallv, wRaise, setO, gonO, tryEnds, wMk, wMkAt, wAt, wRaiseAt, isKd, Mth.kd, eq_self, wDis, wDnK, wDnT, wDput, wPar, wRngD, wFld, wMeth, wNew, wSfld, wCh3, wPar3, wRevL, wDputM, wText, fInT, wIng, wSfld2, wDead, wLock, lckE, wLockE, wKeysL, fDIxL, fDmt, Dmt.f]
    refine ⟨says, rfl, RetOk.less (g'' := gup g p o1) (fun b u e => ?_) (h _ o1 ⟨left, ?_, isort_sorted _⟩ (by rw [(isort_perm says).length_eq]; omega) (hf1.up (by omega)))⟩
    · have e1 : b ≠ ps := fun k => by rw [k, gup_ne nps.symm, gps] at e; cases e
      have e2 : b ≠ pl := fun k => by rw [k, gup_ne npl.symm, hpl] at e; cases e
      rw [gup_ne e1, gup_ne e2, e]
    · exact (((isort_perm says).map _).append_right left).trans hpm
def n_law_sbook : List Str := ["feed", "things", "most", "claims", "turn", "claim"]
def b_law_sbook_7 : Sl := .cons (.ret (.blf .tuple (.cons (.var 3) (.nil)))) (.nil)
def b_law_sbook_6 : Sl := .cons (.expr (.mth .append (.var 3) (.cons (.var 5) (.nil)))) (.nil)
def b_law_sbook_3 : Sl := .cons (.asg (.nm 5) (.call "_law_sclaim" sp_law_sclaim (.cons (.var 0) (.cons (.var 1) (.cons (.idx .l (.lst (.cons (.cst (.int 3)) (.cons (.cst (.int 3)) (.cons (.cst (.int 3)) (.cons (.cst (.int 6)) (.nil)))))) (.call "_law_sdraw" sp_law_sdraw (.cons (.var 0) (.cons (.cst (.int 4)) (.nil))))) (.nil)))))) (.cons (.ifs (.and (.cmp .eqD (.var 5) (.tup (.nil))) (.cmp .gtI (.call "_law_sdraw" sp_law_sdraw (.cons (.var 0) (.cons (.cst (.int 6)) (.nil)))) (.cst (.int 0)))) (.cons (.asg (.nm 5) (.tup (.cons (.idx .l (.var 1) (.cst (.int 0))) (.nil)))) (.nil)) (.nil)) (b_law_sbook_6))
def b_law_sbook : Sl := .cons (.asg (.nm 3) (.trk (.lst (.nil)))) (.cons (.for_ (.rng1 (.cons (.bin .addI (.cst (.int 1)) (.call "_law_sdraw" sp_law_sdraw (.cons (.var 0) (.cons (.var 2) (.nil))))) (.nil))) (.nm 4) (b_law_sbook_3)) (b_law_sbook_7))
def sp_law_sbook : GSp := fun ds g Q _ => ∃ (p : Addr) (o : DO) (n most : Int) (things : List Int), ds = [.ref p, .lst (things.map .int), .int most] ∧ g p = some o ∧ FeedO o n ∧ n + 1 + 19 * most < 2 ^ 62 ∧ 1 ≤ most ∧ most ≤ 1000 ∧ 1 ≤ things.length ∧ things.length ≤ 8 ∧ (∀ x ∈ things, 1 ≤ x) ∧
  ∀ (cs : List (List Int)) (o' : DO), (∀ c ∈ cs, ClaimOf things c) → 1 ≤ cs.length → cs.length ≤ most → FeedO o' (n + 1 + 19 * most) → Q (.v (.tup (cs.map fun c => .tup (c.map .int)))) (gup g p o')
theorem w_law_sbook : ∀ ds g Q W, sp_law_sbook ds g Q W → wSs b_law_sbook (bodyEnds g Q W) (startD 6 ds) g := by
  rintro ds g Q W ⟨p, o, n, most, things, rfl, hp, hf, hn, hm0, hm1, ht0, ht, hpos, h⟩
  change wSs _ _ [some _, some _, some _, none, none, none] g
  rw [b_law_sbook]
  walk_at "wp"
  intro pl hpl
  have npl : p ≠ pl := fun e => by rw [e, hpl] at hp; cases hp
  refine ⟨p, o, n, _, rfl, by rw [gup_ne npl, hp], hf, by omega, by omega, by omega, fun d o' hd0 hd1 hf' => ?_⟩
  walk_at "wp"
  rw [gup_up1 npl]
  refine ⟨by omega, by omega, ?_⟩
  refine forW_rng (fun k ρ g' => ∃ (o : DO) (cs : List (List Int)) (x y : Option D), FeedO o (n + 1 + 19 * k) ∧ (∀ c ∈ cs, ClaimOf things c) ∧ cs.length = k ∧
    ρ = [some (.ref p), some (.lst (things.map .int)), some (.int most), some (.ref pl), x, y] ∧ g' = gup (gup g p o) pl (.lst (cs.map fun c => .tup (c.map .int)))) ?_ ?_ ?_
  · exact ⟨o', [], none, none, by simpa using hf', by simp, rfl, rfl, rfl⟩
  · rintro i hi ρ g' ⟨o1, cs, x, y, hf1, hcs, hx, rfl, rfl⟩ N hN
    rw [b_law_sbook_3]
    walk_at "wp"
    refine ⟨p, o1, _, _, rfl, by rw [gup_ne npl, gup_same], hf1, by omega, by omega, by omega, fun d2 o2 h0 h1 hf2 => ?_⟩
    rw [gup_in1 npl]
    obtain ⟨w, hw0, hw1, ew⟩ : ∃ w : Int, 0 ≤ w ∧ w ≤ 1000 ∧ L2.atI [D.int 3, D.int 3, D.int 3, D.int 6] d2 = some (.int w) := by
      rcases (by omega : d2 = 0 ∨ d2 = 1 ∨ d2 = 2 ∨ d2 = 3) with rfl | rfl | rfl | rfl
      · exact ⟨3, by omega, by omega, atI_0⟩
      · exact ⟨3, by omega, by omega, atI_1⟩
      · exact ⟨3, by omega, by omega, atI_2⟩
      · exact ⟨6, by omega, by omega, atI_3⟩
    simp only [ew, wSs, wS, wE, wL, wO, wSq, wRet, wRetN, wAsg, wIf, wDrop, wFor, wPut, wNx, wArgs, wCons, wNil, wCall, wComp, wI, wB, wSeqT, wSeqL, wRng1, wRng2, wEnumL, wEnumT, wVar, wC, wBin, wUn, wNot, wAnd, wOr, wIte, wTest, wTrk, wSlc, wNoPart, wPart, fMt, List.getElem?_cons_succ, List.getElem?_cons_zero, tupOf, lstOf, gdOf, ex_eq, ex_eq', ex2_eq, ex2_eq', Bfn.f, Mth.f, compT, tgB, setAll, wipeD, wYes, List.map_cons, List.map_nil, List.set_cons_succ, List.set_cons_zero, List.length_cons, List.length_nil, Bop.f, Cop.f, Iop.f, fI2, fS2, fIx, fNeg, true_and, and_true, if_true, bodyEnds, R.fz_v, R.fz_tl, atI_0, atI_1, atI_2, atI_3, Option.some.injEq, DO.lst.injEq, decide_eq_true_eq, gup_same, gup_gup, or_false, ixN_s0, ixN_s1, ixN_s2, List.length_set, List.length_map, szl, Nat.reduceAdd, Nat.zero_add, Nat.reduceLeDiff, Nat.zero_le, Int.reduceLE, exists_eq', false_or, fAddT, fAddL, fSl, rolOf, Bool.not_true, Bool.not_false, Bool.false_eq_true, if_false, Bool.false_xor, Bool.xor_true, beq_self_eq_true, isiB_bb, isiB_ll, decide_true, isiB_tt, fIsN, isNon, wTry, wCallv, wRaise, setO, gonO, tryEnds, wMk, wMkAt, wAt, wRaiseAt, isKd, Mth.kd, eq_self, wDis, wDnK, wDnT, wDput, wPar, wRngD, wFld, wMeth, wNew, wSfld, wCh3, wPar3, wRevL, wDputM, wText, fInT, wIng, wSfld2, wDead, wLock, lckE, wLockE, wKeysL, fDIxL, fDmt, Dmt.f]
    refine ⟨p, o2, _, _, things, rfl, by rw [gup_ne npl, gup_same], hf2, by omega, hw0, hw1, ht, hpos, fun zs o3 hz hzl hf3 => ?_⟩
    rw [gup_in1 npl]
    walk_at "wp"
    have go : ∀ (zs : List Int) (o4 : DO) (m : Int), ClaimOf things zs → FeedO o4 m → m ≤ n + 1 + 19 * (i + 1) → wSs b_law_sbook_6 { nx := N, rt := RetOk g Q, ct := N, ex := XRet W }
                [some (D.ref p), some (D.lst (List.map D.int things)), some (D.int most), some (D.ref pl), some (D.int ↑i), some (D.tup (zs.map .int))]
                (gup (gup g p o4) pl (DO.lst (cs.map fun c => .tup (c.map .int)))) := fun zs o4 m hz hf4 hm => by
      simp only [b_law_sbook_6, wSs, wS, wE, wL, wO, wSq, wRet, wRetN, wAsg, wIf, wDrop, wFor, wPut, wNx, wArgs, wCons, wNil, wCall, wComp, wI, wB, wSeqT, wSeqL, wRng1, wRng2, wEnumL, wEnumT, wVar, wC, wBin, wUn, wNot, wAnd, wOr, wIte, wTest, wTrk, wSlc, wNoPart, wPart, fMt, List.getElem?_cons_succ, List.getElem?_cons_zero, tupOf, lstOf, gdOf, ex_eq, ex_eq', ex2_eq, ex2_eq', Bfn.f, Mth.f, compT, tgB, setAll, wipeD, wYes, List.map_cons, List.map_nil, List.set_cons_succ, List.set_cons_zero, List.length_cons, List.length_nil, Bop.f, Cop.f, Iop.f, fI2, fS2, fIx, fNeg, true_and, and_true, if_true, bodyEnds, R.fz_v, R.fz_tl, atI_0, atI_1, atI_2, atI_3, Option.some.injEq, DO.lst.injEq, decide_eq_true_eq, gup_same, gup_gup, or_false, ixN_s0, ixN_s1, ixN_s2, List.length_set, List.length_map, szl, Nat.reduceAdd, Nat.zero_add, Nat.reduceLeDiff, Nat.zero_le, Int.reduceLE, exists_eq', false_or, fAddT, fAddL, fSl, rolOf, Bool.not_true, Bool.not_false, Bool.false_eq_true, if_false, Bool.false_xor, Bool.xor_true, beq_self_eq_true, isiB_bb, isiB_ll, decide_true, isiB_tt, fIsN, isNon, wTry, wCallv, wRaise, setO, gonO, tryEnds, wMk, wMkAt, wAt, wRaiseAt, isKd, Mth.kd, eq_self, wDis, wDnK, wDnT, wDput, wPar, wRngD, wFld, wMeth, wNew, wSfld, wCh3, wPar3, wRevL, wDputM, wText, fInT, wIng, wSfld2, wDead, wLock, lckE, wLockE, wKeysL, fDIxL, fDmt, Dmt.f]
      refine ⟨by omega, hN _ _ ⟨o4, cs ++ [zs], _, _, hf4.up (by omega), fun c hc => ?_, by simp [hx], rfl, by simp⟩⟩
      rcases List.mem_append.mp hc with h | h
      · exact hcs c h
      · rw [List.mem_singleton.mp h]; exact hz
    refine fEq_ints (ys := []) ?_
    walk_at "wp"
    split
    · refine ⟨p, o3, _, _, rfl, by rw [gup_ne npl, gup_same], hf3, by omega, by omega, by omega, fun d4 o4 h0 h1 hf4 => ?_⟩
      rw [gup_in1 npl]
      walk_at "wp"
      split
      · obtain ⟨t, ts, rfl⟩ : ∃ t ts, things = t :: ts := by
          cases things with
          | nil => simp at ht0
          | cons t ts => exact ⟨t, ts, rfl⟩
        refine ⟨_, by rw [List.map_cons, atI_0], go [t] o4 _ ⟨ts, ?_, by simp⟩ hf4 (by omega)⟩
        have := hpos t List.mem_cons_self
        rw [List.map_cons, List.map_nil, show (t.natAbs : Int) = t by omega]
        exact .refl _
      · exact go zs o4 _ hz hf4 (by omega)
    · exact go zs o3 _ hz hf3 (by omega)
  · rintro ρ g' ⟨o1, cs, x, y, hf1, hcs, hx, rfl, rfl⟩
    simp only [b_law_sbook_7, wSs, wS, wE, wL, wO, wSq, wRet, wRetN, wAsg, wIf, wDrop, wFor, wPut, wNx, wArgs, wCons, wNil, wCall, wComp, wI, wB, wSeqT, wSeqL, wRng1, wRng2, wEnumL, wEnumT, wVar, wC, wBin, wUn, wNot, wAnd, wOr, wIte, wTest, wTrk, wSlc, wNoPart, wPart, fMt, List.getElem?_cons_succ, List.getElem?_cons_zero, tupOf, lstOf, gdOf, ex_eq, ex_eq', ex2_eq, ex2_eq', Bfn.f, Mth.f, compT, tgB, setAll, wipeD, wYes, List.map_cons, List.map_nil, List.set_cons_succ, List.set_cons_zero, List.length_cons, List.length_nil, Bop.f, Cop.f, Iop.f, fI2, fS2, fIx, fNeg, true_and, and_true, if_true, bodyEnds, R.fz_v, R.fz_tl, atI_0, atI_1, atI_2, atI_3, Option.some.injEq, DO.lst.injEq, decide_eq_true_eq, gup_same, gup_gup, or_false, ixN_s0, ixN_s1, ixN_s2, List.length_set, List.length_map, szl, Nat.reduceAdd, Nat.zero_add, Nat.reduceLeDiff, Nat.zero_le, Int.reduceLE, exists_eq', false_or, fAddT, fAddL, fSl, rolOf, Bool.not_true, Bool.not_false, Bool.false_eq_true, if_false, Bool.false_xor, Bool.xor_true, beq_self_eq_true, isiB_bb, isiB_ll, decide_true, isiB_tt, fIsN, isNon, wTry, wCallv, wRaise, setO, gonO, tryEnds, wMk, wMkAt, wAt, wRaiseAt, isKd, Mth.kd, eq_self, wDis, wDnK, wDnT, wDput, wPar, wRngD, wFld, wMeth, wNew, wSfld, wCh3, wPar3, wRevL, wDputM, wText, fInT, wIng, wSfld2, wDead, wLock, lckE, wLockE, wKeysL, fDIxL, fDmt, Dmt.f]
    refine RetOk.less (g'' := gup g p o1) (gup_less (by rw [gup_ne npl.symm, hpl])) (h _ o1 hcs (by omega) (by omega) (hf1.up (by omega)))

abbrev cl (c : List Int) : D := .tup (c.map .int)
abbrev cls (cs : List (List Int)) : D := .tup (cs.map cl)
abbrev bls (bs : List Bool) : D := .tup (bs.map .bl)
def n_law_ssetting : List Str := ["feed", "k"]
def b_law_ssetting : Sl := .cons (.ret (.blf .tuple (.cons (.comp [("k", 1)] (.rng1 (.cons (.cst (.int 8)) (.nil))) (.nm 1) (.no) (.cmp .eqI (.call "_law_sdraw" sp_law_sdraw (.cons (.var 0) (.cons (.cst (.int 2)) (.nil)))) (.cst (.int 0)))) (.nil)))) (.nil)
def sp_law_ssetting : GSp := fun ds g Q _ => ∃ (p : Addr) (o : DO) (n : Int), ds = [.ref p] ∧ g p = some o ∧ FeedO o n ∧ n + 8 < 2 ^ 62 ∧
  ∀ (bs : List Bool) (o' : DO), bs.length = 8 → FeedO o' (n + 8) → Q (.v (bls bs)) (gup g p o')
theorem w_law_ssetting : ∀ ds g Q W, sp_law_ssetting ds g Q W → wSs b_law_ssetting (bodyEnds g Q W) (startD 2 ds) g := by
  rintro ds g Q W ⟨p, o, n, rfl, hp, hf, hn, h⟩
  change wSs _ _ [some _, none] g
  rw [b_law_ssetting]; walk_at "wp"
  refine ⟨by decide, by decide, ?_⟩
  refine compW_rng (fun k acc g' => ∃ (o : DO) (bs : List Bool), k ≤ 8 ∧ FeedO o (n + k) ∧ bs.length = k ∧ acc = bs.map .bl ∧ g' = gup g p o) ?_ ?_ ?_ ?_
  · exact ⟨o, [], by omega, by simpa using hf, rfl, rfl, (gup_self hp).symm⟩
  · rintro i acc g' ⟨o1, bs, h8, hf1, hl, rfl, rfl⟩
    rw [List.length_map, szl]; omega
  · rintro i hi acc g' ⟨o1, bs, h8, hf1, hl, rfl, rfl⟩ P h1 h2

    walk_at "wp"
    refine ⟨p, o1, _, _, rfl, gup_same, hf1, by omega, by omega, by omega, fun d o2 _ _ hf2 => ?_⟩
    walk_at "wp"
    exact h1 _ _ ⟨o2, bs ++ [decide (d = 0)], by omega, hf2.up (by omega), by simp [hl], by simp, rfl⟩
  · rintro acc g' ⟨o1, bs, h8, hf1, hl, rfl, rfl⟩
    exact .same (h bs o1 (by simpa using hl) (hf1.up (by omega)))
def n_law_sholds : List Str := ["claim", "setting", "say"]
def b_law_sholds : Sl := .cons (.ret (.cmp .gtI (.blf .len (.cons (.comp [("say", 2)] (.seqT (.var 0)) (.nm 2) (.so (.cmp .eqD (.idx .t (.var 1) (.bin .subI (.blf .abs (.cons (.var 2) (.nil))) (.cst (.int 1)))) (.cmp .gtI (.var 2) (.cst (.int 0))))) (.var 2)) (.nil))) (.cst (.int 0)))) (.nil)
/-- a claim holds in a setting -/
def holdsB (claim : List Int) (setting : List Bool) : Bool := claim.any fun say => setting.getD (say.natAbs - 1) false == decide (0 < say)
/-- a claim about the things one to eight -/
def Said8 (c : List Int) : Prop := c.length ≤ 1000 ∧ ∀ z ∈ c, 1 ≤ z.natAbs ∧ z.natAbs ≤ 8
theorem at_setting {setting : List Bool} {s : Int} (h1 : 1 ≤ s.natAbs) (h2 : s.natAbs ≤ setting.length) : L2.atI (setting.map D.bl) ((if s < 0 then -s else s) - 1) = some (.bl (setting.getD (s.natAbs - 1) false)) := by
  have e : (if s < 0 then -s else s) - 1 = ((s.natAbs - 1 : Nat) : Int) := by split <;> omega
  rw [e, atI_nat', List.getElem?_map, List.getElem?_eq_getElem (by omega), List.getD_eq_getElem?_getD, List.getElem?_eq_getElem (by omega)]
  rfl
def sp_law_sholds : GSp := fun ds g Q _ => ∃ (claim : List Int) (setting : List Bool), ds = [cl claim, bls setting] ∧ setting.length = 8 ∧ Said8 claim ∧ Q (.v (.bl (holdsB claim setting))) g
theorem w_law_sholds : ∀ ds g Q W, sp_law_sholds ds g Q W → wSs b_law_sholds (bodyEnds g Q W) (startD 3 ds) g := by
  rintro ds g Q W ⟨claim, setting, rfl, h8, hs, h⟩
  change wSs _ _ [some _, some _, none] g
  rw [b_law_sholds]; walk_at "wp"
  refine compW_fm D.int (fun s => setting.getD (s.natAbs - 1) false == decide (0 < s)) D.int trivial (fun s hm P hp => ?_) (by simpa using Nat.le_trans hs.1 (by decide)) ?_
  · walk_at "wp"
    refine ⟨_, at_setting (hs.2 s hm).1 (by rw [h8]; exact (hs.2 s hm).2), ?_⟩
    refine fEq_bl ?_
    walk_at "wp"
    exact hp
  · rw [List.nil_append]
    walk_at "wp"
    refine RetOk.same ?_
    have : decide (0 < ((claim.filter fun s => setting.getD (s.natAbs - 1) false == decide (0 < s)).length : Int)) = holdsB claim setting := by
      rw [Bool.eq_iff_iff, decide_eq_true_eq]
      unfold holdsB
      rw [List.any_eq_true, show (0 < ((claim.filter fun s => setting.getD (s.natAbs - 1) false == decide (0 < s)).length : Int)) ↔ 0 < (claim.filter fun s => setting.getD (s.natAbs - 1) false == decide (0 < s)).length by omega, List.length_pos_iff_exists_mem]
      simp only [List.mem_filter]
    rw [this]
    exact h
def n_holds : List Str := ["claim", "setting", "say"]
def b_holds : Sl := .cons (.ret (.blf .any (.cons (.comp [("say", 2)] (.seqT (.var 0)) (.nm 2) (.no) (.cmp .eqD (.idx .t (.var 1) (.bin .subI (.blf .abs (.cons (.var 2) (.nil))) (.cst (.int 1)))) (.cmp .gtI (.var 2) (.cst (.int 0))))) (.nil)))) (.nil)
def sp_holds : GSp := sp_law_sholds
theorem w_holds : ∀ ds g Q W, sp_holds ds g Q W → wSs b_holds (bodyEnds g Q W) (startD 3 ds) g := by
  rintro ds g Q W ⟨claim, setting, rfl, h8, hs, h⟩
  change wSs _ _ [some _, some _, none] g
  rw [b_holds]; walk_at "wp"
  refine compW_m D.int (fun s => D.bl (setting.getD (s.natAbs - 1) false == decide (0 < s))) trivial (fun s hm P hp => ?_) (Nat.le_trans hs.1 (by decide)) ?_
  · walk_at "wp"
    refine ⟨_, at_setting (hs.2 s hm).1 (by rw [h8]; exact (hs.2 s hm).2), ?_⟩
    refine fEq_bl ?_
    simpa using hp
  · refine ⟨claim.map fun s => setting.getD (s.natAbs - 1) false == decide (0 < s), ?_, ?_⟩
    · show _ = _
      rw [List.map_map]; rfl
    · rw [any_map]
      exact .same h
def n_failing : List Str := ["book", "setting", "number", "claim"]
def b_failing : Sl := .cons (.ret (.comp [("number", 2), ("claim", 3)] (.enumT (.cons (.var 0) (.nil))) (.tp [2, 3]) (.so (.not (.call "holds" sp_holds (.cons (.var 3) (.cons (.var 1) (.nil)))))) (.var 2))) (.nil)
/-- the numbers of the claims that don't hold -/
def failingL (book : List (List Int)) (setting : List Bool) : List Int := ((book.zipIdx 0).filter fun p => !holdsB p.1 setting).map fun p => (p.2 : Int)
def sp_failing : GSp := fun ds g Q _ => ∃ (book : List (List Int)) (setting : List Bool), ds = [cls book, bls setting] ∧ setting.length = 8 ∧ book.length ≤ 1000 ∧ (∀ c ∈ book, Said8 c) ∧ Q (.tl ((failingL book setting).map .int)) g
theorem w_failing : ∀ ds g Q W, sp_failing ds g Q W → wSs b_failing (bodyEnds g Q W) (startD 4 ds) g := by
  rintro ds g Q W ⟨book, setting, rfl, h8, hb, hs, h⟩
  change wSs _ _ [some _, some _, none, none] g
  rw [b_failing]; walk_at "wp"
  rw [enumD_map]
  refine compW_fm (fun p : List Int × Nat => D.tup [.int p.2, cl p.1]) (fun p => !holdsB p.1 setting) (fun p => D.int p.2) trivial (fun s hm P hp => ?_) (by simpa using Nat.le_trans hb (by decide)) ?_
  · walk_at "wp"
    refine ⟨_, _, rfl, h8, hs _ (List.fst_mem_of_mem_zipIdx hm), ?_⟩
    walk_at "wp"
    exact hp
  · rw [List.nil_append]
    refine RetOk.same ?_
    unfold failingL at h
    rw [List.map_map] at h
    exact h

end G3

/-! W2: settings, what follows -/
namespace G3
open PySem L2
local macro_rules | `(tactic| walk_at "wp") => `(tactic| simp only [wSs, wS, wE, wL, wO, wSq, wRet, wRetN, wAsg, wIf, wDrop, wFor, wPut, wNx, wArgs, wCons, wNil, wCall, wComp, wI, wB, wSeqT, wSeqL, wRng1, wRng2, wEnumL, wEnumT, wVar, wC, wBin, wUn, wNot, wAnd, wOr, wIte, wTest, wTrk, wSlc, wNoPart, wPart, fMt, List.getElem?_cons_succ, List.getElem?_cons_zero, tupOf, lstOf, gdOf, ex_eq, ex_eq', ex2_eq, ex2_eq', Bfn.f, Mth.f, compT, tgB, setAll, wipeD, wYes, List.map_cons, List.map_nil, List.set_cons_succ, List.set_cons_zero, List.length_cons, List.length_nil, Bop.f, Cop.f, Iop.f, fI2, fS2, fIx, fNeg, true_and, and_true, if_true, bodyEnds, R.fz_v, R.fz_tl, atI_0, atI_1, atI_2, atI_3, Option.some.injEq, DO.lst.injEq, decide_eq_true_eq, gup_same, gup_gup, or_false, ixN_s0, ixN_s1, ixN_s2, List.length_set, List.length_map, szl, Nat.reduceAdd, Nat.zero_add, Nat.reduceLeDiff, Nat.zero_le, Int.reduceLE, exists_eq', false_or, fAddT, fAddL, fSl, rolOf, Bool.not_true, Bool.not_false, Bool.false_eq_true, if_false, Bool.false_xor, Bool.xor_true, beq_self_eq_true, isiB_bb, isiB_ll, decide_true, isiB_tt, fIsN, isNon, wTry, wCallv, wRaise, setO, gonO, tryEnds, wMk, wMkAt, wAt, wRaiseAt, isKd, Mth.kd, eq_self, wDis, wDnK, wDnT, wDput, wPar, wRngD, wFld, wMeth, wNew, wSfld, wCh3, wPar3, wRevL, wDputM, wText, fInT, wIng, wSfld2, wDead, wLock, lckE, wLockE, wKeysL, fDIxL, fDmt, Dmt.f])
local macro_rules | `(tactic| walk_at "stp") => `(tactic| first | (rw [wHid_eq]; conv in (wSs _) => arg 1; whnf) | (conv in (wSs _) => arg 1; whnf))
local macro_rules | `(tactic| walk_at "wx") => `(tactic| simp only [wSs, wS, wE, wL, wO, wSq, wRet, wRetN, wAsg, wIf, wDrop, wFor, wPut, wNx, wArgs, wCons, wNil, wCall, wComp, wI, wB, wSeqT, wSeqL, wRng1, wRng2, wEnumL, wEnumT, wVar, wC, wBin, wUn, wNot, wAnd, wOr, wIte, wTest, wTrk, wSlc, wNoPart, wPart, fMt, List.getElem?_cons_succ, List.getElem?_cons_zero, tupOf, lstOf, gdOf, ex_eq, ex_eq', ex2_eq, ex2_eq', Bfn.f, Mth.f, compT, tgB, setAll, wipeD, wYes, List.map_cons, List.map_nil, List.set_cons_succ, List.set_cons_zero, List.length_cons, List.length_nil, Bop.f, Cop.f, Iop.f, fI2, fS2, fIx, fNeg, true_and, and_true, if_true, bodyEnds, R.fz_v, R.fz_tl, atI_0, atI_1, atI_2, atI_3, Option.some.injEq, DO.lst.injEq, decide_eq_true_eq, gup_same, gup_gup, or_false, ixN_s0, ixN_s1, ixN_s2, List.length_set, List.length_map, szl, Nat.reduceAdd, Nat.zero_add, Nat.reduceLeDiff, Nat.zero_le, Int.reduceLE, exists_eq', false_or, fAddT, fAddL, fSl, rolOf, Bool.not_true, Bool.not_false, Bool.false_eq_true, if_false, Bool.false_xor, Bool.xor_true, beq_self_eq_true, isiB_bb, isiB_ll, decide_true, isiB_tt, fIsN, isNon, wTry, wCallv, wRaise, setO, gonO, tryEnds, wMk, wMkAt, wAt, wRaiseAt, isKd, Mth.kd, eq_self, wDis, wDnK, wDnT, wDput, wPar, wRngD, wFld, wMeth, wNew, wSfld, wCh3, wPar3, wRevL, wDputM, wText, fInT, wIng, wSfld2, wDead, wLock, lckE, wLockE, wKeysL, fDIxL, fDmt, Dmt.f, eIn_tI, eIn_lI, eEq_tI, eEq_lI, eEq_tl, eEq_tl', eEq_bl, eEq_tN, eEq_lN, fIsE, Ufn.f, fSSet, fLSet, if_true, if_false, Bool.true_xor, Bool.xor_false, seqOf, fIxA, fSlA, fAddA, fInA, wSeqA, wEnumA, isKd, Mth.kd, fB2, okD_int, okD_bl, okDs_intsN, inD_ints, fRepL, fAddS, fIxS, eEq_int, wCh, fLRng, fRevT, fRow2, fTRng, fLSetT, fMaxD, wStp, fLz, wLockX, wDisE, Tfn.f, fDEq, fDInL, fDIxA])
/-! ### settings as they are gone through -/
/-- one thing set otherwise -/
def setTo (b : Bool) (t : Int) (s : List Bool) : List Bool := s.take (t - 1).toNat ++ [b] ++ s.drop t.toNat
theorem setTo_eq {b : Bool} {t : Int} {s : List Bool} (h1 : 1 ≤ t) (h8 : t ≤ 8) (hs : s.length = 8) : setTo b t s = s.set (t - 1).toNat b := by
  unfold setTo
  rw [List.set_eq_take_append_cons_drop, if_pos (by omega), show (t - 1).toNat + 1 = t.toNat by omega]
  simp
def doubled (b : Bool) (found : List (List Bool)) : List Int → List (List Bool)
  | [] => found
  | t :: ts => doubled b (found ++ found.map (setTo b t)) ts
def allOf (b : Bool) (ts : List Int) : List (List Bool) := doubled b [List.replicate 8 (!b)] ts
theorem doubled_len (b : Bool) : ∀ (ts : List Int) (found : List (List Bool)), (doubled b found ts).length = found.length * 2 ^ ts.length
  | [], found => by simp [doubled]
  | t :: ts, found => by
    unfold doubled
    rw [doubled_len b ts, List.length_append, List.length_map, List.length_cons, Nat.pow_succ]
    rw [← Nat.two_mul, Nat.mul_comm 2, Nat.mul_assoc, Nat.mul_comm 2]
theorem doubled_snoc (b : Bool) : ∀ (ts : List Int) (t : Int) (found : List (List Bool)), doubled b found (ts ++ [t]) = doubled b found ts ++ (doubled b found ts).map (setTo b t)
  | [], t, found => rfl
  | x :: ts, t, found => doubled_snoc b ts t _
theorem allOf_len (b : Bool) (ts : List Int) : (allOf b ts).length = 2 ^ ts.length := by
  unfold allOf
  rw [doubled_len]; simp
theorem snoc_ind {α : Type} {P : List α → Prop} (h0 : P []) (h1 : ∀ ts t, P ts → P (ts ++ [t])) (ts : List α) : P ts := by
  have : ∀ us : List α, P us.reverse := by
    intro us
    induction us with
    | nil => exact h0
    | cons x us ih => rw [List.reverse_cons]; exact h1 _ _ ih
  simpa using this ts.reverse
theorem doubled_mem (b : Bool) : ∀ (ts : List Int), (∀ t ∈ ts, 1 ≤ t ∧ t ≤ 8) → ∀ (s : List Bool), s ∈ allOf b ts ↔ s.length = 8 ∧ ∀ i : Nat, i < 8 → ¬ ((i : Int) + 1 ∈ ts) → s[i]? = some (!b) := by
  refine snoc_ind ?_ ?_
  · intro _ s
    show s ∈ [List.replicate 8 (!b)] ↔ _
    rw [List.mem_singleton]
    constructor
    · rintro rfl
      exact ⟨List.length_replicate, fun i hi _ => by rw [List.getElem?_replicate, if_pos hi]⟩
    · rintro ⟨h1, h2⟩
      refine List.ext_getElem? fun i => ?_
      by_cases hi : i < 8
      · rw [h2 i hi (by simp), List.getElem?_replicate, if_pos hi]
      · rw [List.getElem?_eq_none (by omega), List.getElem?_eq_none (by simp; omega)]
  · intro ts t ih ht s
    have ih := ih fun x hx => ht x (List.mem_append_left _ hx)
    obtain ⟨h1, h8⟩ := ht t (by simp)
    show s ∈ doubled b _ (ts ++ [t]) ↔ _
    rw [doubled_snoc, List.mem_append, List.mem_map]
    show (s ∈ allOf b ts ∨ ∃ a, a ∈ allOf b ts ∧ setTo b t a = s) ↔ _
    constructor
    · rintro (h | ⟨a, h, rfl⟩)
      · obtain ⟨q1, q2⟩ := (ih s).mp h
        exact ⟨q1, fun i hi hn => q2 i hi fun m => hn (List.mem_append_left _ m)⟩
      · obtain ⟨q1, q2⟩ := (ih a).mp h
        rw [setTo_eq h1 h8 q1]
        refine ⟨by simp [q1], fun i hi hn => ?_⟩
        rw [List.mem_append, List.mem_singleton, not_or] at hn
        rw [List.getElem?_set_ne (by omega)]
        exact q2 i hi hn.1
    · rintro ⟨q1, q2⟩
      have hlt : (t - 1).toNat < s.length := by omega
      by_cases hb : s[(t - 1).toNat]? = some (!b)
      · refine .inl ((ih s).mpr ⟨q1, fun i hi hn => ?_⟩)
        by_cases e : (i : Int) + 1 = t
        · rw [show i = (t - 1).toNat by omega]; exact hb
        · exact q2 i hi (by rw [List.mem_append, List.mem_singleton, not_or]; exact ⟨hn, e⟩)
      · have hb2 : s[(t - 1).toNat]? = some b := by
          rw [List.getElem?_eq_getElem hlt] at hb ⊢
          cases hx : s[(t - 1).toNat] <;> cases b <;> simp_all
        refine .inr ⟨s.set (t - 1).toNat (!b), (ih _).mpr ⟨by simp [q1], fun i hi hn => ?_⟩, ?_⟩
        · by_cases e : (i : Int) + 1 = t
          · rw [show i = (t - 1).toNat by omega, List.getElem?_set_self hlt]
          · rw [List.getElem?_set_ne (by omega)]
            exact q2 i hi (by rw [List.mem_append, List.mem_singleton, not_or]; exact ⟨hn, e⟩)
        · rw [setTo_eq h1 h8 (by simp [q1]), List.set_set]
          refine List.ext_getElem? fun i => ?_
          by_cases e : (t - 1).toNat = i
          · subst e; rw [List.getElem?_set_self hlt, hb2]
          · rw [List.getElem?_set_ne e]
/-- it's against the claim: the book holds, the claim doesn't -/
def against (book : List (List Int)) (claim : List Int) (s : List Bool) : Bool := !holdsB claim s && book.all fun c => holdsB c s
theorem failing_nil (book : List (List Int)) (s : List Bool) : (failingL book s == []) = book.all fun c => holdsB c s := by
  rw [Bool.eq_iff_iff, beq_iff_eq, List.all_eq_true]
  unfold failingL
  rw [List.map_eq_nil_iff, List.filter_eq_nil_iff]
  constructor
  · intro h c hc
    obtain ⟨i, hi⟩ := List.mem_iff_getElem?.mp hc
    have := h (c, i) (List.mem_iff_getElem?.mpr ⟨i, by rw [List.getElem?_zipIdx, hi]; simp⟩)
    simpa using this
  · rintro h ⟨c, i⟩ hm
    simpa using h c (List.fst_mem_of_mem_zipIdx hm)
/-- the things of some claims -/
def absOf (claims : List (List Int)) : List Int := claims.flatMap fun c => c.map fun z => (z.natAbs : Int)
def thingsOf (claims : List (List Int)) : List Int := usort (absOf claims)
theorem abs_nat (i : Int) : (if i < 0 then -i else i) = (i.natAbs : Int) := by split <;> omega
def b_things_of_3 : Sl := .cons (.asg (.nm 1) (.bin .addL (.var 1) (.comp [("say", 3)] (.seqT (.var 2)) (.nm 3) (.no) (.blf .abs (.cons (.var 3) (.nil)))))) (.nil)
def b_things_of : Sl := .cons (.asg (.nm 1) (.lst (.nil))) (.cons (.for_ (.seqL (.var 0)) (.nm 2) (b_things_of_3)) (.cons (.ret (.un .sset (.var 1))) (.nil)))
def sp_things_of : GSp := fun ds g Q _ => ∃ claims : List (List Int), ds = [.lst (claims.map cl)] ∧ (absOf claims).length ≤ 4000 ∧ (thingsOf claims).length < 64 ∧ Q (.tl ((thingsOf claims).map .int)) g
theorem absOf_take {claims : List (List Int)} {k : Nat} {c : List Int} (h : claims[k]? = some c) : absOf (claims.take (k + 1)) = absOf (claims.take k) ++ c.map fun z => (z.natAbs : Int) := by
  unfold absOf
  rw [List.take_add_one, h, List.flatMap_append]
  simp
theorem absOf_le (claims : List (List Int)) (k : Nat) : (absOf (claims.take k)).length ≤ (absOf claims).length := by
  have e : absOf claims = absOf (claims.take k) ++ absOf (claims.drop k) := by
    unfold absOf
    rw [← List.flatMap_append, List.take_append_drop]
  rw [e, List.length_append]; omega
theorem w_things_of : ∀ ds g Q W, sp_things_of ds g Q W → wSs b_things_of (bodyEnds g Q W) (startD 4 ds) g := by
  rintro ds g Q W ⟨claims, rfl, h1, h2, h⟩
  change wSs _ _ [some _, none, none, none] g
  rw [b_things_of]; walk_at "wp"
  refine forW_map cl (fun k ρ g' => ∃ x2 x3, g' = g ∧ ρ = [some (.lst (claims.map cl)), some (.lst ((absOf (claims.take k)).map .int)), x2, x3]) ⟨none, none, rfl, rfl⟩ ?_ ?_ ?_
  · rintro k ρ g' ⟨x2, x3, rfl, rfl⟩; trivial
  · rintro k c hk ρ g' ⟨x2, x3, rfl, rfl⟩ N hN
    have e := absOf_take hk
    have l1 := absOf_le claims k
    have l2 := absOf_le claims (k + 1)
    rw [e, List.length_append, List.length_map] at l2
    simp only [b_things_of_3, wSs, wS, wE, wL, wO, wSq, wRet, wRetN, wAsg, wIf, wDrop, wFor, wPut, wNx, wArgs, wCons, wNil, wCall, wComp, wI, wB, wSeqT, wSeqL, wRng1, wRng2, wEnumL, wEnumT, wVar, wC, wBin, wUn, wNot, wAnd, wOr, wIte, wTest, wTrk, wSlc, wNoPart, wPart, fMt, List.getElem?_cons_succ, List.getElem?_cons_zero, tupOf, lstOf, gdOf, ex_eq, ex_eq', ex2_eq, ex2_eq', Bfn.f, Mth.f, compT, tgB, setAll, wipeD, wYes, List.map_cons, List.map_nil, List.set_cons_succ, List.set_cons_zero, List.length_cons, List.length_nil, Bop.f, Cop.f, Iop.f, fI2, fS2, fIx, fNeg, true_and, and_true, if_true, bodyEnds, R.fz_v, R.fz_tl, atI_0, atI_1, atI_2, atI_3, Option.some.injEq, DO.lst.injEq, decide_eq_true_eq, gup_same, gup_gup, or_false, ixN_s0, ixN_s1, ixN_s2, List.length_set, List.length_map, szl, Nat.reduceAdd, Nat.zero_add, Nat.reduceLeDiff, Nat.zero_le, Int.reduceLE, exists_eq', false_or, fAddT, fAddL, fSl, rolOf, Bool.not_true, Bool.not_false, Bool.false_eq_true, if_false, Bool.false_xor, Bool.xor_true, beq_self_eq_true, isiB_bb, isiB_ll, decide_true, isiB_tt, fIsN, isNon, wTry, wCallv, wRaise, setO, gonO, tryEnds, wMk, wMkAt, wAt, wRaiseAt, isKd, Mth.kd, eq_self, wDis, wDnK, wDnT, wDput, wPar, wRngD, wFld, wMeth, wNew, wSfld, wCh3, wPar3, wRevL, wDputM, wText, fInT, wIng, wSfld2, wDead, wLock, lckE, wLockE, wKeysL, fDIxL, fDmt, Dmt.f]
    refine compW_m D.int (fun z => D.int (z.natAbs : Int)) trivial (fun z hz P hp => ?_) (by rw [szl]; omega) ?_
    · walk_at "wp"
      rw [abs_nat]
      exact hp
    · walk_at "wp"
      exact ⟨by omega, hN _ _ ⟨some (cl c), x3, rfl, by rw [e]; simp⟩⟩
  · rintro ρ g' ⟨x2, x3, rfl, rfl⟩
    rw [List.take_length]
    walk_at "wp"
    exact ⟨_, .inl rfl, h1, h2, .same h⟩
def b_settings_of_3 : Sl := .cons (.asg (.nm 1) (.bin .addL (.var 1) (.comp [("some", 3)] (.seqL (.var 1)) (.nm 3) (.no) (.bin .addT (.bin .addT (.slc .t (.var 3) (.no) (.so (.bin .subI (.var 2) (.cst (.int 1))))) (.tup (.cons (.cst (.bl true)) (.nil)))) (.slc .t (.var 3) (.so (.var 2)) (.no)))))) (.nil)
def b_settings_of : Sl := .cons (.asg (.nm 1) (.lst (.cons (.bin .repT (.tup (.cons (.cst (.bl false)) (.nil))) (.glb "GREATEST" (.int 8))) (.nil)))) (.cons (.for_ (.seqL (.var 0)) (.nm 2) (b_settings_of_3)) (.cons (.ret (.var 1)) (.nil)))
def n_law_severy : List Str := ["things", "every", "k", "one"]
def b_law_severy_3 : Sl := .cons (.asg (.nm 1) (.bin .addL (.var 1) (.comp [("one", 3)] (.seqL (.var 1)) (.nm 3) (.no) (.bin .addT (.bin .addT (.slc .t (.var 3) (.no) (.so (.bin .subI (.var 2) (.cst (.int 1))))) (.tup (.cons (.cst (.bl false)) (.nil)))) (.slc .t (.var 3) (.so (.var 2)) (.no)))))) (.nil)
def b_law_severy : Sl := .cons (.asg (.nm 1) (.lst (.cons (.bin .repT (.tup (.cons (.cst (.bl true)) (.nil))) (.cst (.int 8))) (.nil)))) (.cons (.for_ (.seqL (.var 0)) (.nm 2) (b_law_severy_3)) (.cons (.ret (.var 1)) (.nil)))
def sp_settings_of : GSp := fun ds g Q _ => ∃ ts : List Int, ds = [.lst (ts.map .int)] ∧ ts.length ≤ 8 ∧ (∀ t ∈ ts, 1 ≤ t ∧ t ≤ 8) ∧ Q (.v (.lst ((allOf true ts).map bls))) g
def sp_law_severy : GSp := fun ds g Q _ => ∃ ts : List Int, ds = [.lst (ts.map .int)] ∧ ts.length ≤ 8 ∧ (∀ t ∈ ts, 1 ≤ t ∧ t ≤ 8) ∧ Q (.v (.lst ((allOf false ts).map bls))) g
theorem allOf_take {b : Bool} {ts : List Int} {k : Nat} {t : Int} (h : ts[k]? = some t) : allOf b (ts.take (k + 1)) = allOf b (ts.take k) ++ (allOf b (ts.take k)).map (setTo b t) := by
  rw [List.take_add_one, h]
  exact doubled_snoc b _ t _
theorem w_settings_of : ∀ ds g Q W, sp_settings_of ds g Q W → wSs b_settings_of (bodyEnds g Q W) (startD 4 ds) g := by
  rintro ds g Q W ⟨ts, rfl, h1, h2, h⟩
  change wSs _ _ [some _, none, none, none] g
  rw [b_settings_of]; walk_at "wp"
  refine ⟨[.bl false], rfl, by simp, by decide, by decide, by decide, ?_⟩
  walk_at "wp"
  refine forW_map D.int (fun k ρ g' => ∃ x2 x3, g' = g ∧ ρ = [some (.lst (ts.map .int)), some (.lst ((allOf true (ts.take k)).map bls)), x2, x3]) ⟨none, none, rfl, rfl⟩ ?_ ?_ ?_
  · rintro k ρ g' ⟨x2, x3, rfl, rfl⟩; trivial
  · rintro k t hk ρ g' ⟨x2, x3, rfl, rfl⟩ N hN
    have e := allOf_take (b := true) hk
    have hkl : k < ts.length := (List.getElem?_eq_some_iff.mp hk).1
    obtain ⟨t1, t8⟩ := h2 t (List.mem_of_getElem? hk)
    have hlen : (allOf true (ts.take k)).length ≤ 256 := by
      rw [allOf_len]
      exact Nat.le_trans (Nat.pow_le_pow_right (by decide) (show (ts.take k).length ≤ 8 by rw [List.length_take]; omega)) (by decide)
    have hm := doubled_mem true (ts.take k) fun t ht => h2 t (List.mem_of_mem_take ht)
    simp only [b_settings_of_3, wSs, wS, wE, wL, wO, wSq, wRet, wRetN, wAsg, wIf, wDrop, wFor, wPut, wNx, wArgs, wCons, wNil, wCall, wComp, wI, wB, wSeqT, wSeqL, wRng1, wRng2, wEnumL, wEnumT, wVar, wC, wBin, wUn, wNot, wAnd, wOr, wIte, wTest, wTrk, wSlc, wNoPart, wPart, fMt, List.getElem?_cons_succ, List.getElem?_cons_zero, tupOf, lstOf, gdOf, ex_eq, ex_eq', ex2_eq, ex2_eq', Bfn.f, Mth.f, compT, tgB, setAll, wipeD, wYes, List.map_cons, List.map_nil, List.set_cons_succ, List.set_cons_zero, List.length_cons, List.length_nil, Bop.f, Cop.f, Iop.f, fI2, fS2, fIx, fNeg, true_and, and_true, if_true, bodyEnds, R.fz_v, R.fz_tl, atI_0, atI_1, atI_2, atI_3, Option.some.injEq, DO.lst.injEq, decide_eq_true_eq, gup_same, gup_gup, or_false, ixN_s0, ixN_s1, ixN_s2, List.length_set, List.length_map, szl, Nat.reduceAdd, Nat.zero_add, Nat.reduceLeDiff, Nat.zero_le, Int.reduceLE, exists_eq', false_or, fAddT, fAddL, fSl, rolOf, Bool.not_true, Bool.not_false, Bool.false_eq_true, if_false, Bool.false_xor, Bool.xor_true, beq_self_eq_true, isiB_bb, isiB_ll, decide_true, isiB_tt, fIsN, isNon, wTry, wCallv, wRaise, setO, gonO, tryEnds, wMk, wMkAt, wAt, wRaiseAt, isKd, Mth.kd, eq_self, wDis, wDnK, wDnT, wDput, wPar, wRngD, wFld, wMeth, wNew, wSfld, wCh3, wPar3, wRevL, wDputM, wText, fInT, wIng, wSfld2, wDead, wLock, lckE, wLockE, wKeysL, fDIxL, fDmt, Dmt.f]
    refine compW_m bls (fun s => bls (setTo true t s)) trivial (fun s hs P hp => ?_) (by rw [szl]; omega) ?_
    · have h8 := ((hm s).mp hs).1
      simp only [cutD_map, cutD_pre (show 0 ≤ t - 1 by omega) (show t - 1 ≤ s.length by omega), cutD_post (show 0 ≤ t by omega) (show t ≤ s.length by omega), wSs, wS, wE, wL, wO, wSq, wRet, wRetN, wAsg, wIf, wDrop, wFor, wPut, wNx, wArgs, wCons, wNil, wCall, wComp, wI, wB, wSeqT, wSeqL, wRng1, wRng2, wEnumL, wEnumT, wVar, wC, wBin, wUn, wNot, wAnd, wOr, wIte, wTest, wTrk, wSlc, wNoPart, wPart, fMt, List.getElem?_cons_succ, List.getElem?_cons_zero, tupOf, lstOf, gdOf, ex_eq, ex_eq', ex2_eq, ex2_eq', Bfn.f, Mth.f, compT, tgB, setAll, wipeD, wYes, List.map_cons, List.map_nil, List.set_cons_succ, List.set_cons_zero, List.length_cons, List.length_nil, Bop.f, Cop.f, Iop.f, fI2, fS2, fIx, fNeg, true_and, and_true, if_true, bodyEnds, R.fz_v, R.fz_tl, atI_0, atI_1, atI_2, atI_3, Option.some.injEq, DO.lst.injEq, decide_eq_true_eq, gup_same, gup_gup, or_false, ixN_s0, ixN_s1, ixN_s2, List.length_set, List.length_map, szl, Nat.reduceAdd, Nat.zero_add, Nat.reduceLeDiff, Nat.zero_le, Int.reduceLE, exists_eq', false_or, fAddT, fAddL, fSl, rolOf, Bool.not_true, Bool.not_false, Bool.false_eq_true, if_false, Bool.false_xor, Bool.xor_true, beq_self_eq_true, isiB_bb, isiB_ll, decide_true, isiB_tt, fIsN, isNon, wTry, wCallv, wRaise, setO, gonO, tryEnds, wMk, wMkAt, wAt, wRaiseAt, isKd, Mth.kd, eq_self, wDis, wDnK, wDnT, wDput, wPar, wRngD, wFld, wMeth, wNew, wSfld, wCh3, wPar3, wRevL, wDputM, wText, fInT, wIng, wSfld2, wDead, wLock, lckE, wLockE, wKeysL, fDIxL, fDmt, Dmt.f]
      refine ⟨by simp; omega, by simp; omega, ?_⟩
      unfold setTo bls at hp
      simpa using hp
    · walk_at "wp"
      exact ⟨by omega, hN _ _ ⟨some (.int t), x3, rfl, by rw [e]; simp⟩⟩
  · rintro ρ g' ⟨x2, x3, rfl, rfl⟩
    rw [List.take_length]
    walk_at "wp"
    exact .same h
theorem w_law_severy : ∀ ds g Q W, sp_law_severy ds g Q W → wSs b_law_severy (bodyEnds g Q W) (startD 4 ds) g := by
  rintro ds g Q W ⟨ts, rfl, h1, h2, h⟩
  change wSs _ _ [some _, none, none, none] g
  rw [b_law_severy]; walk_at "wp"
  refine ⟨[.bl true], rfl, by simp, by decide, by decide, by decide, ?_⟩
  walk_at "wp"
  refine forW_map D.int (fun k ρ g' => ∃ x2 x3, g' = g ∧ ρ = [some (.lst (ts.map .int)), some (.lst ((allOf false (ts.take k)).map bls)), x2, x3]) ⟨none, none, rfl, rfl⟩ ?_ ?_ ?_
  · rintro k ρ g' ⟨x2, x3, rfl, rfl⟩; trivial
  · rintro k t hk ρ g' ⟨x2, x3, rfl, rfl⟩ N hN
    have e := allOf_take (b := false) hk
    have hkl : k < ts.length := (List.getElem?_eq_some_iff.mp hk).1
    obtain ⟨t1, t8⟩ := h2 t (List.mem_of_getElem? hk)
    have hlen : (allOf false (ts.take k)).length ≤ 256 := by
      rw [allOf_len]
      exact Nat.le_trans (Nat.pow_le_pow_right (by decide) (show (ts.take k).length ≤ 8 by rw [List.length_take]; omega)) (by decide)
    have hm := doubled_mem false (ts.take k) fun t ht => h2 t (List.mem_of_mem_take ht)
    simp only [b_law_severy_3, wSs, wS, wE, wL, wO, wSq, wRet, wRetN, wAsg, wIf, wDrop, wFor, wPut, wNx, wArgs, wCons, wNil, wCall, wComp, wI, wB, wSeqT, wSeqL, wRng1, wRng2, wEnumL, wEnumT, wVar, wC, wBin, wUn, wNot, wAnd, wOr, wIte, wTest, wTrk, wSlc, wNoPart, wPart, fMt, List.getElem?_cons_succ, List.getElem?_cons_zero, tupOf, lstOf, gdOf, ex_eq, ex_eq', ex2_eq, ex2_eq', Bfn.f, Mth.f, compT, tgB, setAll, wipeD, wYes, List.map_cons, List.map_nil, List.set_cons_succ, List.set_cons_zero, List.length_cons, List.length_nil, Bop.f, Cop.f, Iop.f, fI2, fS2, fIx, fNeg, true_and, and_true, if_true, bodyEnds, R.fz_v, R.fz_tl, atI_0, atI_1, atI_2, atI_3, Option.some.injEq, DO.lst.injEq, decide_eq_true_eq, gup_same, gup_gup, or_false, ixN_s0, ixN_s1, ixN_s2, List.length_set, List.length_map, szl, Nat.reduceAdd, Nat.zero_add, Nat.reduceLeDiff, Nat.zero_le, Int.reduceLE, exists_eq', false_or, fAddT, fAddL, fSl, rolOf, Bool.not_true, Bool.not_false, Bool.false_eq_true, if_false, Bool.false_xor, Bool.xor_true, beq_self_eq_true, isiB_bb, isiB_ll, decide_true, isiB_tt, fIsN, isNon, wTry, wCallv, wRaise, setO, gonO, tryEnds, wMk, wMkAt, wAt, wRaiseAt, isKd, Mth.kd, eq_self, wDis, wDnK, wDnT, wDput, wPar, wRngD, wFld, wMeth, wNew, wSfld, wCh3, wPar3, wRevL, wDputM, wText, fInT, wIng, wSfld2, wDead, wLock, lckE, wLockE, wKeysL, fDIxL, fDmt, Dmt.f]
    refine compW_m bls (fun s => bls (setTo false t s)) trivial (fun s hs P hp => ?_) (by rw [szl]; omega) ?_
    · have h8 := ((hm s).mp hs).1
      simp only [cutD_map, cutD_pre (show 0 ≤ t - 1 by omega) (show t - 1 ≤ s.length by omega), cutD_post (show 0 ≤ t by omega) (show t ≤ s.length by omega), wSs, wS, wE, wL, wO, wSq, wRet, wRetN, wAsg, wIf, wDrop, wFor, wPut, wNx, wArgs, wCons, wNil, wCall, wComp, wI, wB, wSeqT, wSeqL, wRng1, wRng2, wEnumL, wEnumT, wVar, wC, wBin, wUn, wNot, wAnd, wOr, wIte, wTest, wTrk, wSlc, wNoPart, wPart, fMt, List.getElem?_cons_succ, List.getElem?_cons_zero, tupOf, lstOf, gdOf, ex_eq, ex_eq', ex2_eq, ex2_eq', Bfn.f, Mth.f, compT, tgB, setAll, wipeD, wYes, List.map_cons, List.map_nil, List.set_cons_succ, List.set_cons_zero, List.length_cons, List.length_nil, Bop.f, Cop.f, Iop.f, fI2, fS2, fIx, fNeg, true_and, and_true, if_true, bodyEnds, R.fz_v, R.fz_tl, atI_0, atI_1, atI_2, atI_3, Option.some.injEq, DO.lst.injEq, decide_eq_true_eq, gup_same, gup_gup, or_false, ixN_s0, ixN_s1, ixN_s2, List.length_set, List.length_map, szl, Nat.reduceAdd, Nat.zero_add, Nat.reduceLeDiff, Nat.zero_le, Int.reduceLE, exists_eq', false_or, fAddT, fAddL, fSl, rolOf, Bool.not_true, Bool.not_false, Bool.false_eq_true, if_false, Bool.false_xor, Bool.xor_true, beq_self_eq_true, isiB_bb, isiB_ll, decide_true, isiB_tt, fIsN, isNon, wTry, wCallv, wRaise, setO, gonO, tryEnds, wMk, wMkAt, wAt, wRaiseAt, isKd, Mth.kd, eq_self, wDis, wDnK, wDnT, wDput, wPar, wRngD, wFld, wMeth, wNew, wSfld, wCh3, wPar3, wRevL, wDputM, wText, fInT, wIng, wSfld2, wDead, wLock, lckE, wLockE, wKeysL, fDIxL, fDmt, Dmt.f]
      refine ⟨by simp; omega, by simp; omega, ?_⟩
      unfold setTo bls at hp
      simpa using hp
    · walk_at "wp"
      exact ⟨by omega, hN _ _ ⟨some (.int t), x3, rfl, by rw [e]; simp⟩⟩
  · rintro ρ g' ⟨x2, x3, rfl, rfl⟩
    rw [List.take_length]
    walk_at "wp"
    exact .same h
/-- claims of a book, about the things one to eight -/
def Said (book : List (List Int)) : Prop := book.length ≤ 40 ∧ ∀ c ∈ book, c.length ≤ 8 ∧ ∀ z ∈ c, 1 ≤ z.natAbs ∧ z.natAbs ≤ 8
theorem Said.said {book : List (List Int)} (h : Said book) : ∀ c ∈ book, Said8 c := fun c hc => ⟨by have := (h.2 c hc).1; omega, (h.2 c hc).2⟩
theorem Said.abs {book : List (List Int)} (h : Said book) : (absOf book).length ≤ 8 * book.length ∧ ∀ t ∈ absOf book, 1 ≤ t ∧ t ≤ 8 := by
  obtain ⟨-, h⟩ := h
  constructor
  · induction book with
    | nil => simp [absOf]
    | cons c cs ih =>
      have := ih fun x hx => h x (List.mem_cons_of_mem _ hx)
      have h1 := (h c List.mem_cons_self).1
      unfold absOf at this ⊢
      rw [List.flatMap_cons, List.length_append, List.length_map, List.length_cons]
      omega
  · intro t ht
    obtain ⟨c, hc, hm⟩ := List.mem_flatMap.mp ht
    obtain ⟨z, hz, rfl⟩ := List.mem_map.mp hm
    have := (h c hc).2 z hz
    omega
theorem nodup_le8 {ts : List Int} (hn : ts.Pairwise (· < ·)) (h : ∀ t ∈ ts, 1 ≤ t ∧ t ≤ 8) : ts.length ≤ 8 := by
  have go : ∀ (ts : List Int) (lo : Int), ts.Pairwise (· < ·) → (∀ t ∈ ts, lo < t ∧ t ≤ 8) → (ts.length : Int) ≤ max 0 (8 - lo) := by
    intro ts
    induction ts with
    | nil => intro lo _ _; simp; omega
    | cons t ts ih =>
      intro lo hp hm
      obtain ⟨h1, h2⟩ := List.pairwise_cons.mp hp
      have := ih t h2 fun x hx => ⟨h1 x hx, (hm x (List.mem_cons_of_mem _ hx)).2⟩
      have ht := hm t List.mem_cons_self
      simp only [List.length_cons]
      omega
  have := go ts 0 hn fun t ht => by have := h t ht; omega
  omega
theorem thingsOf_ok {book : List (List Int)} (h : Said book) : (thingsOf book).length ≤ 8 ∧ (∀ t ∈ thingsOf book, 1 ≤ t ∧ t ≤ 8) ∧ ∀ c ∈ book, ∀ z ∈ c, (z.natAbs : Int) ∈ thingsOf book := by
  have m : ∀ t ∈ thingsOf book, 1 ≤ t ∧ t ≤ 8 := fun t ht => h.abs.2 t (usort_mem.mp ht)
  exact ⟨nodup_le8 (usort_lt _) m, m, fun c hc z hz => usort_mem.mpr (List.mem_flatMap.mpr ⟨c, hc, List.mem_map_of_mem hz⟩)⟩
def b_follows_4 : Sl := .cons (.ret (.tup (.cons (.cst (.str "follows")) (.nil)))) (.nil)
def b_follows_2 : Sl := .cons (.ifs (.and (.not (.call "holds" sp_holds (.cons (.var 1) (.cons (.var 2) (.nil))))) (.cmp .eqD (.call "failing" sp_failing (.cons (.var 0) (.cons (.var 2) (.nil)))) (.lst (.nil)))) (.cons (.ret (.tup (.cons (.cst (.str "not")) (.cons (.var 2) (.nil))))) (.nil)) (.nil)) (.nil)
def b_follows : Sl := .cons (.for_ (.seqL (.call "settings_of" sp_settings_of (.cons (.call "things_of" sp_things_of (.cons (.bin .addL (.blf .list (.cons (.var 0) (.nil))) (.lst (.cons (.var 1) (.nil)))) (.nil))) (.nil)))) (.nm 2) (b_follows_2)) (b_follows_4)
/-- what follows tells -/
def followsD (book : List (List Int)) (claim : List Int) : List D := match (allOf true (thingsOf (book ++ [claim]))).find? (against book claim) with
  | none => [.str "follows"]
  | some s => [.str "not", bls s]
def sp_follows : GSp := fun ds g Q _ => ∃ (book : List (List Int)) (claim : List Int), ds = [cls book, cl claim] ∧ Said (book ++ [claim]) ∧ Q (.v (.tup (followsD book claim))) g
theorem w_follows : ∀ ds g Q W, sp_follows ds g Q W → wSs b_follows (bodyEnds g Q W) (startD 3 ds) g := by
  rintro ds g Q W ⟨book, claim, rfl, hs, h⟩
  change wSs _ _ [some _, some _, none] g
  obtain ⟨t1, t2, t3⟩ := thingsOf_ok hs
  have hbl : book.length ≤ 40 := by have := hs.1; simp at this; omega
  have h8 := hs.said
  rw [b_follows]; walk_at "wp"
  refine ⟨by omega, book ++ [claim], by simp, by have := hs.abs.1; have := hs.1; omega, by omega, ?_⟩
  walk_at "wp"
  refine ⟨_, rfl, t1, t2, ?_⟩
  walk_at "wp"
  have hm := doubled_mem true _ t2
  refine forW_map bls (fun k ρ g' => ∃ x2, g' = g ∧ (∀ s ∈ (allOf true (thingsOf (book ++ [claim]))).take k, against book claim s = false) ∧ ρ = [some (cls book), some (cl claim), x2]) ⟨none, rfl, by simp, rfl⟩ ?_ ?_ ?_
  · rintro k ρ g' ⟨x2, rfl, -, rfl⟩; trivial
  · rintro k s hk ρ g' ⟨x2, rfl, hno, rfl⟩ N hN
    have hsm : s ∈ allOf true (thingsOf (book ++ [claim])) := List.mem_of_getElem? hk
    have hs8 := ((hm s).mp hsm).1
    have next : against book claim s = false → N [some (cls book), some (cl claim), some (bls s)] g' := fun e => hN _ _ ⟨_, rfl, fun u hu => by
      rw [List.take_add_one, hk] at hu
      rcases List.mem_append.mp hu with hu | hu
      · exact hno u hu
      · rw [show u = s by simpa using hu]; exact e, rfl⟩
    simp only [b_follows_2, wSs, wS, wE, wL, wO, wSq, wRet, wRetN, wAsg, wIf, wDrop, wFor, wPut, wNx, wArgs, wCons, wNil, wCall, wComp, wI, wB, wSeqT, wSeqL, wRng1, wRng2, wEnumL, wEnumT, wVar, wC, wBin, wUn, wNot, wAnd, wOr, wIte, wTest, wTrk, wSlc, wNoPart, wPart, fMt, List.getElem?_cons_succ, List.getElem?_cons_zero, tupOf, lstOf, gdOf, ex_eq, ex_eq', ex2_eq, ex2_eq', Bfn.f, Mth.f, compT, tgB, setAll, wipeD, wYes, List.map_cons, List.map_nil, List.set_cons_succ, List.set_cons_zero, List.length_cons, List.length_nil, Bop.f, Cop.f, Iop.f, fI2, fS2, fIx, fNeg, true_and, and_true, if_true, bodyEnds, R.fz_v, R.fz_tl, atI_0, atI_1, atI_2, atI_3, Option.some.injEq, DO.lst.injEq, decide_eq_true_eq, gup_same, gup_gup, or_false, ixN_s0, ixN_s1, ixN_s2, List.length_set, List.length_map, szl, Nat.reduceAdd, Nat.zero_add, Nat.reduceLeDiff, Nat.zero_le, Int.reduceLE, exists_eq', false_or, fAddT, fAddL, fSl, rolOf, Bool.not_true, Bool.not_false, Bool.false_eq_true, if_false, Bool.false_xor, Bool.xor_true, beq_self_eq_true, isiB_bb, isiB_ll, decide_true, isiB_tt, fIsN, isNon, wTry, wCallv, wRaise, setO, gonO, tryEnds, wMk, wMkAt, wAt, wRaiseAt, isKd, Mth.kd, eq_self, wDis, wDnK, wDnT, wDput, wPar, wRngD, wFld, wMeth, wNew, wSfld, wCh3, wPar3, wRevL, wDputM, wText, fInT, wIng, wSfld2, wDead, wLock, lckE, wLockE, wKeysL, fDIxL, fDmt, Dmt.f]
    refine ⟨_, _, rfl, hs8, h8 claim (by simp), ?_⟩
    walk_at "wp"
    cases hc : holdsB claim s with
    | true =>
      walk_at "wp"
      exact next (by unfold against; rw [hc]; rfl)
    | false =>
      walk_at "wp"
      refine ⟨_, _, rfl, hs8, by omega, fun c hc => h8 c (List.mem_append_left _ hc), ?_⟩
      walk_at "wp"
      refine fEq_intsR (ys := []) rfl rfl ?_
      rw [failing_nil]
      walk_at "wp"
      cases hb : book.all fun c => holdsB c s with
      | true =>
        walk_at "wp"
        refine .same ?_
        have e : (allOf true (thingsOf (book ++ [claim]))).find? (against book claim) = some s := by
          rw [List.find?_eq_some_iff_append]
          refine ⟨by unfold against; rw [hc, hb]; rfl, (allOf true (thingsOf (book ++ [claim]))).take k, (allOf true (thingsOf (book ++ [claim]))).drop (k + 1), ?_, fun u hu => by simp [hno u hu]⟩
          have hkl := (List.getElem?_eq_some_iff.mp hk)
          obtain ⟨hkl, hke⟩ := hkl
          conv => lhs; rw [← List.take_append_drop k (allOf true (thingsOf (book ++ [claim])))]
          rw [List.drop_eq_getElem_cons hkl, hke]
        unfold followsD at h
        rw [e] at h
        exact h
      | false =>
        walk_at "wp"
        exact next (by unfold against; rw [hc, hb]; rfl)
  · rintro ρ g' ⟨x2, rfl, hno, rfl⟩
    rw [List.take_length] at hno
    simp only [b_follows_4, wSs, wS, wE, wL, wO, wSq, wRet, wRetN, wAsg, wIf, wDrop, wFor, wPut, wNx, wArgs, wCons, wNil, wCall, wComp, wI, wB, wSeqT, wSeqL, wRng1, wRng2, wEnumL, wEnumT, wVar, wC, wBin, wUn, wNot, wAnd, wOr, wIte, wTest, wTrk, wSlc, wNoPart, wPart, fMt, List.getElem?_cons_succ, List.getElem?_cons_zero, tupOf, lstOf, gdOf, ex_eq, ex_eq', ex2_eq, ex2_eq', Bfn.f, Mth.f, compT, tgB, setAll, wipeD, wYes, List.map_cons, List.map_nil, List.set_cons_succ, List.set_cons_zero, List.length_cons, List.length_nil, Bop.f, Cop.f, Iop.f, fI2, fS2, fIx, fNeg, true_and, and_true, if_true, bodyEnds, R.fz_v, R.fz_tl, atI_0, atI_1, atI_2, atI_3, Option.some.injEq, DO.lst.injEq, decide_eq_true_eq, gup_same, gup_gup, or_false, ixN_s0, ixN_s1, ixN_s2, List.length_set, List.length_map, szl, Nat.reduceAdd, Nat.zero_add, Nat.reduceLeDiff, Nat.zero_le, Int.reduceLE, exists_eq', false_or, fAddT, fAddL, fSl, rolOf, Bool.not_true, Bool.not_false, Bool.false_eq_true, if_false, Bool.false_xor, Bool.xor_true, beq_self_eq_true, isiB_bb, isiB_ll, decide_true, isiB_tt, fIsN, isNon, wTry, wCallv, wRaise, setO, gonO, tryEnds, wMk, wMkAt, wAt, wRaiseAt, isKd, Mth.kd, eq_self, wDis, wDnK, wDnT, wDput, wPar, wRngD, wFld, wMeth, wNew, wSfld, wCh3, wPar3, wRevL, wDputM, wText, fInT, wIng, wSfld2, wDead, wLock, lckE, wLockE, wKeysL, fDIxL, fDmt, Dmt.f]
    refine .same ?_
    have e : (allOf true (thingsOf (book ++ [claim]))).find? (against book claim) = none := List.find?_eq_none.mpr fun s hs => by simp [hno s hs]
    unfold followsD at h
    rw [e] at h
    exact h
/-- claims, in a tuple or a list -/
def ClsA (d : D) (book : List (List Int)) : Prop := d = cls book ∨ d = .lst (book.map cl)
def n_law_sall_hold : List Str := ["claims", "setting", "one"]
def b_law_sall_hold : Sl := .cons (.ret (.cmp .eqI (.blf .len (.cons (.comp [("one", 2)] (.seqA (.var 0)) (.nm 2) (.so (.not (.call "_law_sholds" sp_law_sholds (.cons (.var 2) (.cons (.var 1) (.nil)))))) (.var 2)) (.nil))) (.cst (.int 0)))) (.nil)
def sp_law_sall_hold : GSp := fun ds g Q _ => ∃ (d : D) (book : List (List Int)) (s : List Bool), ds = [d, bls s] ∧ ClsA d book ∧ s.length = 8 ∧ book.length ≤ 1000 ∧ (∀ c ∈ book, Said8 c) ∧ Q (.v (.bl (book.all fun c => holdsB c s))) g
theorem w_law_sall_hold : ∀ ds g Q W, sp_law_sall_hold ds g Q W → wSs b_law_sall_hold (bodyEnds g Q W) (startD 3 ds) g := by
  rintro ds g Q W ⟨d, book, s, rfl, hd, h8, hb, hs, h⟩
  change wSs _ _ [some _, some _, none] g
  rcases hd with rfl | rfl
  all_goals
    rw [b_law_sall_hold]; walk_at "wx"
    refine compW_fm cl (fun c => !holdsB c s) cl trivial (fun c hc P hp => by
      walk_at "wp"
      refine ⟨_, _, rfl, h8, hs c hc, ?_⟩
      walk_at "wp"
      exact hp) (by rw [szl]; simp; omega) ?_
    rw [List.nil_append]
    walk_at "wp"
    have : decide (((book.filter fun c => !holdsB c s).length : Int) = 0) = book.all fun c => holdsB c s := by
      rw [Bool.eq_iff_iff, decide_eq_true_eq, List.all_eq_true]
      constructor
      · intro h c hc
        have := List.eq_nil_of_length_eq_zero (by omega : (book.filter fun c => !holdsB c s).length = 0)
        rw [List.filter_eq_nil_iff] at this
        simpa using this c hc
      · intro h
        have : book.filter (fun c => !holdsB c s) = [] := List.filter_eq_nil_iff.mpr fun c hc => by simpa using h c hc
        rw [this]; rfl
    rw [this]
    exact .same h
def n_law_sagainst : List Str := ["claims", "claim", "things", "setting"]
def b_law_sagainst_2 : Sl := .cons (.ifs (.not (.call "_law_sholds" sp_law_sholds (.cons (.var 1) (.cons (.var 3) (.nil))))) (.cons (.ifs (.call "_law_sall_hold" sp_law_sall_hold (.cons (.var 0) (.cons (.var 3) (.nil)))) (.cons (.ret (.var 3)) (.nil)) (.nil)) (.nil)) (.nil)) (.nil)
def b_law_sagainst : Sl := .cons (.for_ (.seqL (.call "_law_severy" sp_law_severy (.cons (.var 2) (.nil)))) (.nm 3) (b_law_sagainst_2)) (.cons (.ret (.cst .non)) (.nil))
def sp_law_sagainst : GSp := fun ds g Q _ => ∃ (d : D) (book : List (List Int)) (claim ts : List Int), ds = [d, cl claim, .lst (ts.map .int)] ∧ ClsA d book ∧ ts.length ≤ 8 ∧ (∀ t ∈ ts, 1 ≤ t ∧ t ≤ 8) ∧ Said (book ++ [claim]) ∧
  Q (.v (match (allOf false ts).find? (against book claim) with | none => .non | some s => bls s)) g
theorem w_law_sagainst : ∀ ds g Q W, sp_law_sagainst ds g Q W → wSs b_law_sagainst (bodyEnds g Q W) (startD 4 ds) g := by
  rintro ds g Q W ⟨d, book, claim, ts, rfl, hd, t1, t2, hs, h⟩
  change wSs _ _ [some _, some _, some _, none] g
  have h8 := hs.said
  have hbl : book.length ≤ 40 := by have := hs.1; simp at this; omega
  rw [b_law_sagainst]; walk_at "wp"
  refine ⟨_, rfl, t1, t2, ?_⟩
  walk_at "wp"
  have hm := doubled_mem false _ t2
  refine forW_map bls (fun k ρ g' => ∃ x2, g' = g ∧ (∀ s ∈ (allOf false ts).take k, against book claim s = false) ∧ ρ = [some d, some (cl claim), some (.lst (ts.map .int)), x2]) ⟨none, rfl, by simp, rfl⟩ ?_ ?_ ?_
  · rintro k ρ g' ⟨x2, rfl, -, rfl⟩; trivial
  · rintro k s hk ρ g' ⟨x2, rfl, hno, rfl⟩ N hN
    have hs8 := ((hm s).mp (List.mem_of_getElem? hk)).1
    have next : against book claim s = false → N [some d, some (cl claim), some (.lst (ts.map .int)), some (bls s)] g' := fun e => hN _ _ ⟨_, rfl, fun u hu => by
      rw [List.take_add_one, hk] at hu
      rcases List.mem_append.mp hu with hu | hu
      · exact hno u hu
      · rw [show u = s by simpa using hu]; exact e, rfl⟩
    simp only [b_law_sagainst_2, wSs, wS, wE, wL, wO, wSq, wRet, wRetN, wAsg, wIf, wDrop, wFor, wPut, wNx, wArgs, wCons, wNil, wCall, wComp, wI, wB, wSeqT, wSeqL, wRng1, wRng2, wEnumL, wEnumT, wVar, wC, wBin, wUn, wNot, wAnd, wOr, wIte, wTest, wTrk, wSlc, wNoPart, wPart, fMt, List.getElem?_cons_succ, List.getElem?_cons_zero, tupOf, lstOf, gdOf, ex_eq, ex_eq', ex2_eq, ex2_eq', Bfn.f, Mth.f, compT, tgB, setAll, wipeD, wYes, List.map_cons, List.map_nil, List.set_cons_succ, List.set_cons_zero, List.length_cons, List.length_nil, Bop.f, Cop.f, Iop.f, fI2, fS2, fIx, fNeg, true_and, and_true, if_true, bodyEnds, R.fz_v, R.fz_tl, atI_0, atI_1, atI_2, atI_3, Option.some.injEq, DO.lst.injEq, decide_eq_true_eq, gup_same, gup_gup, or_false, ixN_s0, ixN_s1, ixN_s2, List.length_set, List.length_map, szl, Nat.reduceAdd, Nat.zero_add, Nat.reduceLeDiff, Nat.zero_le, Int.reduceLE, exists_eq', false_or, fAddT, fAddL, fSl, rolOf, Bool.not_true, Bool.not_false, Bool.false_eq_true, if_false, Bool.false_xor, Bool.xor_true, beq_self_eq_true, isiB_bb, isiB_ll, decide_true, isiB_tt, fIsN, isNon, wTry, wCallv, wRaise, setO, gonO, tryEnds, wMk, wMkAt, wAt, wRaiseAt, isKd, Mth.kd, eq_self, wDis, wDnK, wDnT, wDput, wPar, wRngD, wFld, wMeth, wNew, wSfld, wCh3, wPar3, wRevL, wDputM, wText, fInT, wIng, wSfld2, wDead, wLock, lckE, wLockE, wKeysL, fDIxL, fDmt, Dmt.f]
    refine ⟨_, _, rfl, hs8, h8 claim (by simp), ?_⟩
    walk_at "wp"
    cases hc : holdsB claim s with
    | true =>
      walk_at "wp"
      exact next (by unfold against; rw [hc]; rfl)
    | false =>
      walk_at "wp"
      refine ⟨d, _, _, rfl, hd, hs8, by omega, fun c hc => h8 c (List.mem_append_left _ hc), ?_⟩
      walk_at "wp"
      cases hb : book.all fun c => holdsB c s with
      | true =>
        walk_at "wp"
        refine .same ?_
        have e : (allOf false ts).find? (against book claim) = some s := by
          rw [List.find?_eq_some_iff_append]
          refine ⟨by unfold against; rw [hc, hb]; rfl, (allOf false ts).take k, (allOf false ts).drop (k + 1), ?_, fun u hu => by simp [hno u hu]⟩
          obtain ⟨hkl, hke⟩ := List.getElem?_eq_some_iff.mp hk
          conv => lhs; rw [← List.take_append_drop k (allOf false ts)]
          rw [List.drop_eq_getElem_cons hkl, hke]
        rw [e] at h
        exact h
      | false =>
        walk_at "wp"
        exact next (by unfold against; rw [hc, hb]; rfl)
  · rintro ρ g' ⟨x2, rfl, hno, rfl⟩
    rw [List.take_length] at hno
    walk_at "wp"
    refine .same ?_
    rw [List.find?_eq_none.mpr fun s hs => by simp [hno s hs]] at h
    exact h
def n_law_sis_setting : List Str := ["thing", "truth"]
def b_law_sis_setting_3 : Sl := .cons (.ret (.blf .all (.cons (.comp [("truth", 1)] (.seqT (.var 0)) (.nm 1) (.no) (.blf (.isi "bool") (.cons (.var 1) (.cons (.blt "bool" "bool") (.nil))))) (.nil)))) (.nil)
def b_law_sis_setting : Sl := .cons (.ifs (.or (.not (.blf (.isi "tuple") (.cons (.var 0) (.cons (.blt "tuple" "tuple") (.nil))))) (.cmp .neI (.blf .len (.cons (.var 0) (.nil))) (.cst (.int 8)))) (.cons (.ret (.cst (.bl false))) (.nil)) (.nil)) (b_law_sis_setting_3)
def sp_law_sis_setting : GSp := fun ds g Q _ => ∃ s : List Bool, ds = [bls s] ∧ s.length = 8 ∧ Q (.v (.bl true)) g
theorem w_law_sis_setting : ∀ ds g Q W, sp_law_sis_setting ds g Q W → wSs b_law_sis_setting (bodyEnds g Q W) (startD 2 ds) g := by
  rintro ds g Q W ⟨s, rfl, h8, h⟩
  change wSs _ _ [some _, none] g
  rw [b_law_sis_setting]; walk_at "wp"
  refine ⟨by decide, "tuple", rfl, ?_⟩
  rw [h8]
  simp only [b_law_sis_setting_3, wSs, wS, wE, wL, wO, wSq, wRet, wRetN, wAsg, wIf, wDrop, wFor, wPut, wNx, wArgs, wCons, wNil, wCall, wComp, wI, wB, wSeqT, wSeqL, wRng1, wRng2, wEnumL, wEnumT, wVar, wC, wBin, wUn, wNot, wAnd, wOr, wIte, wTest, wTrk, wSlc, wNoPart, wPart, fMt, List.getElem?_cons_succ, List.getElem?_cons_zero, tupOf, lstOf, gdOf, ex_eq, ex_eq', ex2_eq, ex2_eq', Bfn.f, Mth.f, compT, tgB, setAll, wipeD, wYes, List.map_cons, List.map_nil, List.set_cons_succ, List.set_cons_zero, List.length_cons, List.length_nil, Bop.f, Cop.f, Iop.f, fI2, fS2, fIx, fNeg, true_and, and_true, if_true, bodyEnds, R.fz_v, R.fz_tl, atI_0, atI_1, atI_2, atI_3, Option.some.injEq, DO.lst.injEq, decide_eq_true_eq, gup_same, gup_gup, or_false, ixN_s0, ixN_s1, ixN_s2, List.length_set, List.length_map, szl, Nat.reduceAdd, Nat.zero_add, Nat.reduceLeDiff, Nat.zero_le, Int.reduceLE, exists_eq', false_or, fAddT, fAddL, fSl, rolOf, Bool.not_true, Bool.not_false, Bool.false_eq_true, if_false, Bool.false_xor, Bool.xor_true, beq_self_eq_true, isiB_bb, isiB_ll, decide_true, isiB_tt, fIsN, isNon, wTry, wCallv, wRaise, setO, gonO, tryEnds, wMk, wMkAt, wAt, wRaiseAt, isKd, Mth.kd, eq_self, wDis, wDnK, wDnT, wDput, wPar, wRngD, wFld, wMeth, wNew, wSfld, wCh3, wPar3, wRevL, wDputM, wText, fInT, wIng, wSfld2, wDead, wLock, lckE, wLockE, wKeysL, fDIxL, fDmt, Dmt.f]
  rw [if_neg (by decide)]
  refine compW_m D.bl (fun _ => D.bl true) trivial (fun b hb P hp => ?_) (by rw [szl]; omega) ?_
  · walk_at "wp"
    refine ⟨by decide, "bool", rfl, ?_⟩
    walk_at "wp"
    exact hp
  · refine ⟨s.map fun _ => true, ?_, ?_⟩
    · show _ = _
      rw [List.map_map]; rfl
    · rw [all_map, List.all_eq_true.mpr fun _ _ => rfl]
      exact .same h
end G3

/-! C1: cuts of two claims -/
namespace G3
open PySem L2
local macro_rules | `(tactic| walk_at "wp") => `(tactic| simp only [wSs, wS, wE, wL, wO, wSq, wRet, wRetN, wAsg, wIf, wDrop, wFor, wPut, wNx, wArgs, wCons, wNil, wCall, wComp, wI, wB, wSeqT, wSeqL, wRng1, wRng2, wEnumL, wEnumT, wVar, wC, wBin, wUn, wNot, wAnd, wOr, wIte, wTest, wTrk, wSlc, wNoPart, wPart, fMt, List.getElem?_cons_succ, List.getElem?_cons_zero, tupOf, lstOf, gdOf, ex_eq, ex_eq', ex2_eq, ex2_eq', Bfn.f, Mth.f, compT, tgB, setAll, wipeD, wYes, List.map_cons, List.map_nil, List.set_cons_succ, List.set_cons_zero, List.length_cons, List.length_nil, Bop.f, Cop.f, Iop.f, fI2, fS2, fIx, fNeg, true_and, and_true, if_true, bodyEnds, R.fz_v, R.fz_tl, atI_0, atI_1, atI_2, atI_3, Option.some.injEq, DO.lst.injEq, decide_eq_true_eq, gup_same, gup_gup, or_false, ixN_s0, ixN_s1, ixN_s2, List.length_set, List.length_map, szl, Nat.reduceAdd, Nat.zero_add, Nat.reduceLeDiff, Nat.zero_le, Int.reduceLE, exists_eq', false_or, fAddT, fAddL, fSl, rolOf, Bool.not_true, Bool.not_false, Bool.false_eq_true, if_false, Bool.false_xor, Bool.xor_true, beq_self_eq_true, isiB_bb, isiB_ll, decide_true, isiB_tt, fIsN, isNon, wTry, wCallv, wRaise, setO, gonO, tryEnds, wMk, wMkAt, wAt, wRaiseAt, isKd, Mth.kd, eq_self, wDis, wDnK, wDnT, wDput, wPar, wRngD, wFld, wMeth, wNew, wSfld, wCh3, wPar3, wRevL, wDputM, wText, fInT, wIng, wSfld2, wDead, wLock, lckE, wLockE, wKeysL, fDIxL, fDmt, Dmt.f])
local macro_rules | `(tactic| walk_at "stp") => `(tactic| first | (rw [wHid_eq]; conv in (wSs _) => arg 1; whnf) | (conv in (wSs _) => arg 1; whnf))
local macro_rules | `(tactic| walk_at "wx") => `(tactic| simp only [wSs, wS, wE, wL, wO, wSq, wRet, wRetN, wAsg, wIf, wDrop, wFor, wPut, wNx, wArgs, wCons, wNil, wCall, wComp, wI, wB, wSeqT, wSeqL, wRng1, wRng2, wEnumL, wEnumT, wVar, wC, wBin, wUn, wNot, wAnd, wOr, wIte, wTest, wTrk, wSlc, wNoPart, wPart, fMt, List.getElem?_cons_succ, List.getElem?_cons_zero, tupOf, lstOf, gdOf, ex_eq, ex_eq', ex2_eq, ex2_eq', Bfn.f, Mth.f, compT, tgB, setAll, wipeD, wYes, List.map_cons, List.map_nil, List.set_cons_succ, List.set_cons_zero, List.length_cons, List.length_nil, Bop.f, Cop.f, Iop.f, fI2, fS2, fIx, fNeg, true_and, and_true, if_true, bodyEnds, R.fz_v, R.fz_tl, atI_0, atI_1, atI_2, atI_3, Option.some.injEq, DO.lst.injEq, decide_eq_true_eq, gup_same, gup_gup, or_false, ixN_s0, ixN_s1, ixN_s2, List.length_set, List.length_map, szl, Nat.reduceAdd, Nat.zero_add, Nat.reduceLeDiff, Nat.zero_le, Int.reduceLE, exists_eq', false_or, fAddT, fAddL, fSl, rolOf, Bool.not_true, Bool.not_false, Bool.false_eq_true, if_false, Bool.false_xor, Bool.xor_true, beq_self_eq_true, isiB_bb, isiB_ll, decide_true, isiB_tt, fIsN, isNon, wTry, wCallv, wRaise, setO, gonO, tryEnds, wMk, wMkAt, wAt, wRaiseAt, isKd, Mth.kd, eq_self, wDis, wDnK, wDnT, wDput, wPar, wRngD, wFld, wMeth, wNew, wSfld, wCh3, wPar3, wRevL, wDputM, wText, fInT, wIng, wSfld2, wDead, wLock, lckE, wLockE, wKeysL, fDIxL, fDmt, Dmt.f, eIn_tI, eIn_lI, eEq_tI, eEq_lI, eEq_tl, eEq_tl', eEq_bl, eEq_tN, eEq_lN, fIsE, Ufn.f, fSSet, fLSet, if_true, if_false, Bool.true_xor, Bool.xor_false, seqOf, fIxA, fSlA, fAddA, fInA, wSeqA, wEnumA, isKd, Mth.kd, fB2, okD_int, okD_bl, okDs_intsN, inD_ints, fRepL, fAddS, fIxS, eEq_int, wCh, fLRng, fRevT, fRow2, fTRng, fLSetT, fMaxD, wStp, fLz, wLockX, wDisE, Tfn.f, fDEq, fDInL, fDIxA])
/-- all says of two claims but the one they are cut by -/
def allSays (one other : List Int) (k : Int) : List Int := (one.filter fun s => !decide (s = k)) ++ other.filter fun s => !decide (s = 0 - k)
/-- the cut of two claims, as the program makes it -/
def cutF (one other : List Int) (k : Int) : Option (List Int) :=
  if k < 1 ∨ k ∉ one ∨ 0 - k ∉ other then none
  else if (allSays one other k).all (fun s => !(allSays one other k).contains (0 - s)) = true then some (usort (allSays one other k)) else none
/-- no say stands beside its opposite -/
def NoOpp (c : List Int) : Prop := ∀ s ∈ c, 0 - s ∉ c
end G3

/-! D1: what is a claim -/
namespace G3
open PySem L2
local macro_rules | `(tactic| walk_at "wp") => `(tactic| simp only [wSs, wS, wE, wL, wO, wSq, wRet, wRetN, wAsg, wIf, wDrop, wFor, wPut, wNx, wArgs, wCons, wNil, wCall, wComp, wI, wB, wSeqT, wSeqL, wRng1, wRng2, wEnumL, wEnumT, wVar, wC, wBin, wUn, wNot, wAnd, wOr, wIte, wTest, wTrk, wSlc, wNoPart, wPart, fMt, List.getElem?_cons_succ, List.getElem?_cons_zero, tupOf, lstOf, gdOf, ex_eq, ex_eq', ex2_eq, ex2_eq', Bfn.f, Mth.f, compT, tgB, setAll, wipeD, wYes, List.map_cons, List.map_nil, List.set_cons_succ, List.set_cons_zero, List.length_cons, List.length_nil, Bop.f, Cop.f, Iop.f, fI2, fS2, fIx, fNeg, true_and, and_true, if_true, bodyEnds, R.fz_v, R.fz_tl, atI_0, atI_1, atI_2, atI_3, Option.some.injEq, DO.lst.injEq, decide_eq_true_eq, gup_same, gup_gup, or_false, ixN_s0, ixN_s1, ixN_s2, List.length_set, List.length_map, szl, Nat.reduceAdd, Nat.zero_add, Nat.reduceLeDiff, Nat.zero_le, Int.reduceLE, exists_eq', false_or, fAddT, fAddL, fSl, rolOf, Bool.not_true, Bool.not_false, Bool.false_eq_true, if_false, Bool.false_xor, Bool.xor_true, beq_self_eq_true, isiB_bb, isiB_ll, decide_true, isiB_tt, fIsN, isNon, wTry, wCallv, wRaise, setO, gonO, tryEnds, wMk, wMkAt, wAt, wRaiseAt, isKd, Mth.kd, eq_self, wDis, wDnK, wDnT, wDput, wPar, wRngD, wFld, wMeth, wNew, wSfld, wCh3, wPar3, wRevL, wDputM, wText, fInT, wIng, wSfld2, wDead, wLock, lckE, wLockE, wKeysL, fDIxL, fDmt, Dmt.f])
local macro_rules | `(tactic| walk_at "stp") => `(tactic| first | (rw [wHid_eq]; conv in (wSs _) => arg 1; whnf) | (conv in (wSs _) => arg 1; whnf))
local macro_rules | `(tactic| walk_at "wx") => `(tactic| simp only [wSs, wS, wE, wL, wO, wSq, wRet, wRetN, wAsg, wIf, wDrop, wFor, wPut, wNx, wArgs, wCons, wNil, wCall, wComp, wI, wB, wSeqT, wSeqL, wRng1, wRng2, wEnumL, wEnumT, wVar, wC, wBin, wUn, wNot, wAnd, wOr, wIte, wTest, wTrk, wSlc, wNoPart, wPart, fMt, List.getElem?_cons_succ, List.getElem?_cons_zero, tupOf, lstOf, gdOf, ex_eq, ex_eq', ex2_eq, ex2_eq', Bfn.f, Mth.f, compT, tgB, setAll, wipeD, wYes, List.map_cons, List.map_nil, List.set_cons_succ, List.set_cons_zero, List.length_cons, List.length_nil, Bop.f, Cop.f, Iop.f, fI2, fS2, fIx, fNeg, true_and, and_true, if_true, bodyEnds, R.fz_v, R.fz_tl, atI_0, atI_1, atI_2, atI_3, Option.some.injEq, DO.lst.injEq, decide_eq_true_eq, gup_same, gup_gup, or_false, ixN_s0, ixN_s1, ixN_s2, List.length_set, List.length_map, szl, Nat.reduceAdd, Nat.zero_add, Nat.reduceLeDiff, Nat.zero_le, Int.reduceLE, exists_eq', false_or, fAddT, fAddL, fSl, rolOf, Bool.not_true, Bool.not_false, Bool.false_eq_true, if_false, Bool.false_xor, Bool.xor_true, beq_self_eq_true, isiB_bb, isiB_ll, decide_true, isiB_tt, fIsN, isNon, wTry, wCallv, wRaise, setO, gonO, tryEnds, wMk, wMkAt, wAt, wRaiseAt, isKd, Mth.kd, eq_self, wDis, wDnK, wDnT, wDput, wPar, wRngD, wFld, wMeth, wNew, wSfld, wCh3, wPar3, wRevL, wDputM, wText, fInT, wIng, wSfld2, wDead, wLock, lckE, wLockE, wKeysL, fDIxL, fDmt, Dmt.f, eIn_tI, eIn_lI, eEq_tI, eEq_lI, eEq_tl, eEq_tl', eEq_bl, eEq_tN, eEq_lN, fIsE, Ufn.f, fSSet, fLSet, if_true, if_false, Bool.true_xor, Bool.xor_false, seqOf, fIxA, fSlA, fAddA, fInA, wSeqA, wEnumA, isKd, Mth.kd, fB2, okD_int, okD_bl, okDs_intsN, inD_ints, fRepL, fAddS, fIxS, eEq_int, wCh, fLRng, fRevT, fRow2, fTRng, fLSetT, fMaxD, wStp, fLz, wLockX, wDisE, Tfn.f, fDEq, fDInL, fDIxA])
def isWholeB : D → Bool
  | .int _ => true
  | _ => false
def isSayB : D → Bool
  | .int i => decide (i ≠ 0) && (decide (-8 ≤ i) && decide (i ≤ 8))
  | _ => false
def sayI : D → Int
  | .int i => i
  | _ => 0
/-- rising -/
def risB : List Int → Bool
  | a :: b :: r => decide (a < b) && risB (b :: r)
  | _ => true
def claimB (c : List Int) : Bool := risB c && c.all fun s => !c.contains (0 - s)
end G3

/-! F1: claims of up to eight says, cuts of them, what follows -/
namespace G3
open PySem L2
local macro_rules | `(tactic| walk_at "wp") => `(tactic| simp only [wSs, wS, wE, wL, wO, wSq, wRet, wRetN, wAsg, wIf, wDrop, wFor, wPut, wNx, wArgs, wCons, wNil, wCall, wComp, wI, wB, wSeqT, wSeqL, wRng1, wRng2, wEnumL, wEnumT, wVar, wC, wBin, wUn, wNot, wAnd, wOr, wIte, wTest, wTrk, wSlc, wNoPart, wPart, fMt, List.getElem?_cons_succ, List.getElem?_cons_zero, tupOf, lstOf, gdOf, ex_eq, ex_eq', ex2_eq, ex2_eq', Bfn.f, Mth.f, compT, tgB, setAll, wipeD, wYes, List.map_cons, List.map_nil, List.set_cons_succ, List.set_cons_zero, List.length_cons, List.length_nil, Bop.f, Cop.f, Iop.f, fI2, fS2, fIx, fNeg, true_and, and_true, if_true, bodyEnds, R.fz_v, R.fz_tl, atI_0, atI_1, atI_2, atI_3, Option.some.injEq, DO.lst.injEq, decide_eq_true_eq, gup_same, gup_gup, or_false, ixN_s0, ixN_s1, ixN_s2, List.length_set, List.length_map, szl, Nat.reduceAdd, Nat.zero_add, Nat.reduceLeDiff, Nat.zero_le, Int.reduceLE, exists_eq', false_or, fAddT, fAddL, fSl, rolOf, Bool.not_true, Bool.not_false, Bool.false_eq_true, if_false, Bool.false_xor, Bool.xor_true, beq_self_eq_true, isiB_bb, isiB_ll, decide_true, isiB_tt, fIsN, isNon, wTry, wCallv, wRaise, setO, gonO, tryEnds, wMk, wMkAt, wAt, wRaiseAt, isKd, Mth.kd, eq_self, wDis, wDnK, wDnT, wDput, wPar, wRngD, wFld, wMeth, wNew, wSfld, wCh3, wPar3, wRevL, wDputM, wText, fInT, wIng, wSfld2, wDead, wLock, lckE, wLockE, wKeysL, fDIxL, fDmt, Dmt.f])
local macro_rules | `(tactic| walk_at "stp") => `(tactic| first | (rw [wHid_eq]; conv in (wSs _) => arg 1; whnf) | (conv in (wSs _) => arg 1; whnf))
local macro_rules | `(tactic| walk_at "wx") => `(tactic| simp only [wSs, wS, wE, wL, wO, wSq, wRet, wRetN, wAsg, wIf, wDrop, wFor, wPut, wNx, wArgs, wCons, wNil, wCall, wComp, wI, wB, wSeqT, wSeqL, wRng1, wRng2, wEnumL, wEnumT, wVar, wC, wBin, wUn, wNot, wAnd, wOr, wIte, wTest, wTrk, wSlc, wNoPart, wPart, fMt, List.getElem?_cons_succ, List.getElem?_cons_zero, tupOf, lstOf, gdOf, ex_eq, ex_eq', ex2_eq, ex2_eq', Bfn.f, Mth.f, compT, tgB, setAll, wipeD, wYes, List.map_cons, List.map_nil, List.set_cons_succ, List.set_cons_zero, List.length_cons, List.length_nil, Bop.f, Cop.f, Iop.f, fI2, fS2, fIx, fNeg, true_and, and_true, if_true, bodyEnds, R.fz_v, R.fz_tl, atI_0, atI_1, atI_2, atI_3, Option.some.injEq, DO.lst.injEq, decide_eq_true_eq, gup_same, gup_gup, or_false, ixN_s0, ixN_s1, ixN_s2, List.length_set, List.length_map, szl, Nat.reduceAdd, Nat.zero_add, Nat.reduceLeDiff, Nat.zero_le, Int.reduceLE, exists_eq', false_or, fAddT, fAddL, fSl, rolOf, Bool.not_true, Bool.not_false, Bool.false_eq_true, if_false, Bool.false_xor, Bool.xor_true, beq_self_eq_true, isiB_bb, isiB_ll, decide_true, isiB_tt, fIsN, isNon, wTry, wCallv, wRaise, setO, gonO, tryEnds, wMk, wMkAt, wAt, wRaiseAt, isKd, Mth.kd, eq_self, wDis, wDnK, wDnT, wDput, wPar, wRngD, wFld, wMeth, wNew, wSfld, wCh3, wPar3, wRevL, wDputM, wText, fInT, wIng, wSfld2, wDead, wLock, lckE, wLockE, wKeysL, fDIxL, fDmt, Dmt.f, eIn_tI, eIn_lI, eEq_tI, eEq_lI, eEq_tl, eEq_tl', eEq_bl, eEq_tN, eEq_lN, fIsE, Ufn.f, fSSet, fLSet, if_true, if_false, Bool.true_xor, Bool.xor_false, seqOf, fIxA, fSlA, fAddA, fInA, wSeqA, wEnumA, isKd, Mth.kd, fB2, okD_int, okD_bl, okDs_intsN, inD_ints, fRepL, fAddS, fIxS, eEq_int, wCh, fLRng, fRevT, fRow2, fTRng, fLSetT, fMaxD, wStp, fLz, wLockX, wDisE, Tfn.f, fDEq, fDInL, fDIxA])
theorem inj_of_nodup_map {α β : Type} {f : α → β} : ∀ {l : List α}, (l.map f).Nodup → ∀ {x y : α}, x ∈ l → y ∈ l → f x = f y → x = y
  | [], _, _, _, hx, _, _ => absurd hx (by simp)
  | a :: l, h, x, y, hx, hy, e => by
    rw [List.map_cons, List.nodup_cons] at h
    rcases List.mem_cons.mp hx with ex | hx
    · rcases List.mem_cons.mp hy with ey | hy
      · rw [ex, ey]
      · exact absurd (by rw [← ex, e]; exact List.mem_map_of_mem hy) h.1
    · rcases List.mem_cons.mp hy with ey | hy
      · exact absurd (by rw [← ey, ← e]; exact List.mem_map_of_mem hx) h.1
      · exact inj_of_nodup_map h.2 hx hy e
/-- a claim of up to eight says about the things one to eight, without opposites -/
def Cl8 (c : List Int) : Prop := c.length ≤ 8 ∧ NoOpp c ∧ ∀ z ∈ c, 1 ≤ z.natAbs ∧ z.natAbs ≤ 8
theorem ClaimOf.cl8 {things c : List Int} (hn : things.Nodup) (hx : ∀ x ∈ things, 1 ≤ x ∧ x ≤ 8) (hl : things.length ≤ 8) (h : ClaimOf things c) : Cl8 c := by
  have hz : ∀ z ∈ c, 1 ≤ z.natAbs ∧ z.natAbs ≤ 8 := fun z hz => by
    have := hx _ (h.mem hz)
    omega
  refine ⟨by have := h.len; omega, fun s hs hs' => ?_, hz⟩
  obtain ⟨left, hp, -⟩ := h
  have nd := (List.nodup_append.mp (hp.nodup_iff.mpr hn)).1
  have := inj_of_nodup_map nd hs hs' (by omega)
  have := hz s hs
  omega
theorem nodup_of_lt : ∀ {l : List Int}, l.Pairwise (· < ·) → l.Nodup
  | [], _ => List.nodup_nil
  | a :: l, h => by
    obtain ⟨h1, h2⟩ := List.pairwise_cons.mp h
    exact List.nodup_cons.mpr ⟨fun m => by have := h1 a m; omega, nodup_of_lt h2⟩
theorem risB_of_lt : ∀ {l : List Int}, l.Pairwise (· < ·) → risB l = true
  | [], _ => rfl
  | [a], _ => rfl
  | a :: b :: l, h => by
    obtain ⟨h1, h2⟩ := List.pairwise_cons.mp h
    rw [risB, risB_of_lt h2, decide_eq_true (h1 b List.mem_cons_self)]; rfl
/-- what a cut is -/
theorem cutF_ok {one other c : List Int} {k : Int} (h : cutF one other k = some c) : 1 ≤ k ∧ k ∈ one ∧ 0 - k ∈ other ∧ c = usort (allSays one other k) ∧ NoOpp (allSays one other k) := by
  unfold cutF at h
  split at h
  · cases h
  · rename_i hc
    split at h
    · rename_i ha
      cases h
      refine ⟨by omega, Classical.byContradiction fun z => hc (.inr (.inl z)), Classical.byContradiction fun z => hc (.inr (.inr z)), rfl, fun s hs hs' => ?_⟩
      have := List.all_eq_true.mp ha s hs
      have h2 := List.contains_iff_mem.mpr hs'
      rw [h2] at this; cases this
    · cases h
theorem allSays_mem {one other : List Int} {k z : Int} : z ∈ allSays one other k ↔ (z ∈ one ∧ z ≠ k) ∨ (z ∈ other ∧ z ≠ 0 - k) := by
  simp [allSays]
theorem cutF_cl8 {one other c : List Int} {k : Int} (h1 : Cl8 one) (h2 : Cl8 other) (h : cutF one other k = some c) : Cl8 c ∧ claimB c = true ∧ (c.map D.int).all isSayB = true := by
  obtain ⟨-, -, -, rfl, no⟩ := cutF_ok h
  have hz : ∀ z ∈ usort (allSays one other k), 1 ≤ z.natAbs ∧ z.natAbs ≤ 8 := fun z hz => by
    rcases allSays_mem.mp (usort_mem.mp hz) with ⟨m, -⟩ | ⟨m, -⟩
    · exact h1.2.2 z m
    · exact h2.2.2 z m
  have no' : NoOpp (usort (allSays one other k)) := fun s hs hs' => no s (usort_mem.mp hs) (usort_mem.mp hs')
  refine ⟨⟨?_, no', hz⟩, ?_, ?_⟩
  · have nd : ((usort (allSays one other k)).map fun z => (z.natAbs : Int)).Nodup := by
      have hu := nodup_of_lt (usort_lt (allSays one other k))
      have : ∀ l : List Int, l.Nodup → (∀ z ∈ l, z ∈ usort (allSays one other k)) → (l.map fun z => (z.natAbs : Int)).Nodup := by
        intro l
        induction l with
        | nil => intro _ _; exact List.nodup_nil
        | cons a l ih =>
          intro hn hm
          obtain ⟨n1, n2⟩ := List.nodup_cons.mp hn
          rw [List.map_cons, List.nodup_cons]
          refine ⟨fun m => ?_, ih n2 fun z hz => hm z (List.mem_cons_of_mem _ hz)⟩
          obtain ⟨b, hb, e⟩ := List.mem_map.mp m
          by_cases eq : a = b
          · subst eq; exact n1 hb
          · have : b = 0 - a := by omega
            exact no' a (hm a List.mem_cons_self) (by rw [← this]; exact hm b (List.mem_cons_of_mem _ hb))
      exact this _ hu fun _ h => h
    have := nodup_le8 (ts := isort ((usort (allSays one other k)).map fun z => (z.natAbs : Int))) (lt_of_le_nodup _ (isort_sorted _) ((isort_perm _).nodup_iff.mpr nd)) fun t ht => by
      obtain ⟨z, m, rfl⟩ := List.mem_map.mp ((isort_perm _).mem_iff.mp ht)
      have := hz z m
      omega
    rw [(isort_perm _).length_eq, List.length_map] at this
    exact this
  · unfold claimB
    rw [risB_of_lt (usort_lt _), Bool.true_and, List.all_eq_true]
    intro s hs
    have : 0 - s ∉ usort (allSays one other k) := no' s hs
    simpa using this
  · rw [List.all_eq_true]
    intro e he
    obtain ⟨z, m, rfl⟩ := List.mem_map.mp he
    have := hz z m
    show (decide (z ≠ 0) && (decide (-8 ≤ z) && decide (z ≤ 8))) = true
    simp only [Bool.and_eq_true, decide_eq_true_eq]
    omega
theorem said_of {cs : List (List Int)} (h : ∀ c ∈ cs, Cl8 c) (hl : cs.length ≤ 40) : Said cs := ⟨hl, fun c hc => ⟨(h c hc).1, (h c hc).2.2⟩⟩
end G3

/-! G1: rows, gone through -/
namespace G3
open PySem L2
local macro_rules | `(tactic| walk_at "wp") => `(tactic| simp only [wSs, wS, wE, wL, wO, wSq, wRet, wRetN, wAsg, wIf, wDrop, wFor, wPut, wNx, wArgs, wCons, wNil, wCall, wComp, wI, wB, wSeqT, wSeqL, wRng1, wRng2, wEnumL, wEnumT, wVar, wC, wBin, wUn, wNot, wAnd, wOr, wIte, wTest, wTrk, wSlc, wNoPart, wPart, fMt, List.getElem?_cons_succ, List.getElem?_cons_zero, tupOf, lstOf, gdOf, ex_eq, ex_eq', ex2_eq, ex2_eq', Bfn.f, Mth.f, compT, tgB, setAll, wipeD, wYes, List.map_cons, List.map_nil, List.set_cons_succ, List.set_cons_zero, List.length_cons, List.length_nil, Bop.f, Cop.f, Iop.f, fI2, fS2, fIx, fNeg, true_and, and_true, if_true, bodyEnds, R.fz_v, R.fz_tl, atI_0, atI_1, atI_2, atI_3, Option.some.injEq, DO.lst.injEq, decide_eq_true_eq, gup_same, gup_gup, or_false, ixN_s0, ixN_s1, ixN_s2, List.length_set, List.length_map, szl, Nat.reduceAdd, Nat.zero_add, Nat.reduceLeDiff, Nat.zero_le, Int.reduceLE, exists_eq', false_or, fAddT, fAddL, fSl, rolOf, Bool.not_true, Bool.not_false, Bool.false_eq_true, if_false, Bool.false_xor, Bool.xor_true, beq_self_eq_true, isiB_bb, isiB_ll, decide_true, isiB_tt, fIsN, isNon, wTry, wCallv, wRaise, setO, gonO, tryEnds, wMk, wMkAt, wAt, wRaiseAt, isKd, Mth.kd, eq_self, wDis, wDnK, wDnT, wDput, wPar, wRngD, wFld, wMeth, wNew, wSfld, wCh3, wPar3, wRevL, wDputM, wText, fInT, wIng, wSfld2, wDead, wLock, lckE, wLockE, wKeysL, fDIxL, fDmt, Dmt.f])
local macro_rules | `(tactic| walk_at "stp") => `(tactic| first | (rw [wHid_eq]; conv in (wSs _) => arg 1; whnf) | (conv in (wSs _) => arg 1; whnf))
local macro_rules | `(tactic| walk_at "wx") => `(tactic| simp only [wSs, wS, wE, wL, wO, wSq, wRet, wRetN, wAsg, wIf, wDrop, wFor, wPut, wNx, wArgs, wCons, wNil, wCall, wComp, wI, wB, wSeqT, wSeqL, wRng1, wRng2, wEnumL, wEnumT, wVar, wC, wBin, wUn, wNot, wAnd, wOr, wIte, wTest, wTrk, wSlc, wNoPart, wPart, fMt, List.getElem?_cons_succ, List.getElem?_cons_zero, tupOf, lstOf, gdOf, ex_eq, ex_eq', ex2_eq, ex2_eq', Bfn.f, Mth.f, compT, tgB, setAll, wipeD, wYes, List.map_cons, List.map_nil, List.set_cons_succ, List.set_cons_zero, List.length_cons, List.length_nil, Bop.f, Cop.f, Iop.f, fI2, fS2, fIx, fNeg, true_and, and_true, if_true, bodyEnds, R.fz_v, R.fz_tl, atI_0, atI_1, atI_2, atI_3, Option.some.injEq, DO.lst.injEq, decide_eq_true_eq, gup_same, gup_gup, or_false, ixN_s0, ixN_s1, ixN_s2, List.length_set, List.length_map, szl, Nat.reduceAdd, Nat.zero_add, Nat.reduceLeDiff, Nat.zero_le, Int.reduceLE, exists_eq', false_or, fAddT, fAddL, fSl, rolOf, Bool.not_true, Bool.not_false, Bool.false_eq_true, if_false, Bool.false_xor, Bool.xor_true, beq_self_eq_true, isiB_bb, isiB_ll, decide_true, isiB_tt, fIsN, isNon, wTry, wCallv, wRaise, setO, gonO, tryEnds, wMk, wMkAt, wAt, wRaiseAt, isKd, Mth.kd, eq_self, wDis, wDnK, wDnT, wDput, wPar, wRngD, wFld, wMeth, wNew, wSfld, wCh3, wPar3, wRevL, wDputM, wText, fInT, wIng, wSfld2, wDead, wLock, lckE, wLockE, wKeysL, fDIxL, fDmt, Dmt.f, eIn_tI, eIn_lI, eEq_tI, eEq_lI, eEq_tl, eEq_tl', eEq_bl, eEq_tN, eEq_lN, fIsE, Ufn.f, fSSet, fLSet, if_true, if_false, Bool.true_xor, Bool.xor_false, seqOf, fIxA, fSlA, fAddA, fInA, wSeqA, wEnumA, isKd, Mth.kd, fB2, okD_int, okD_bl, okDs_intsN, inD_ints, fRepL, fAddS, fIxS, eEq_int, wCh, fLRng, fRevT, fRow2, fTRng, fLSetT, fMaxD, wStp, fLz, wLockX, wDisE, Tfn.f, fDEq, fDInL, fDIxA])
/-- a thing put for a row -/
def RowOk (d : D) : Prop := okD 60 d = true ∧ ∀ es, d = .tup es → es.length ≤ 1000
/-- what a row tells -/
def rowF (book claims : List (List Int)) : D → Option (List Int)
  | .tup (w :: ps) => if ps.all isWholeB = true then
      match ps.map sayI with
      | [n] => if deq w (.str "book") = true ∧ 0 ≤ n then book[n.toNat]? else none
      | [i, j, k] => if deq w (.str "cut") = true ∧ 0 ≤ i ∧ 0 ≤ j then
          match claims[i.toNat]?, claims[j.toNat]? with
          | some a, some b => cutF a b k
          | _, _ => none
        else none
      | _ => none
    else none
  | _ => none
theorem rowF_cl8 {book claims : List (List Int)} {d : D} {c : List Int} (hb : ∀ a ∈ book, Cl8 a) (hc : ∀ a ∈ claims, Cl8 a) (h : rowF book claims d = some c) : Cl8 c := by
  unfold rowF at h
  split at h
  · split at h
    · split at h
      · split at h
        · exact hb _ (List.mem_of_getElem? h)
        · cases h
      · split at h
        · split at h
          · rename_i a b ha hb'
            exact (cutF_cl8 (hc _ (List.mem_of_getElem? ha)) (hc _ (List.mem_of_getElem? hb')) h).1
          · cases h
        · cases h
      · cases h
    · cases h
  · cases h
/-- rows, gone through from a number on: the claims, and the number of the first that is none -/
def goneF (row : List (List Int) → D → Option (List Int)) (most : Nat) : List D → List (List Int) → Nat → List (List Int) × Option Nat
  | [], acc, _ => (acc, none)
  | d :: ds, acc, n => match row acc d with
    | none => (acc, some n)
    | some c => if n = most then (acc, some n) else goneF row most ds (acc ++ [c]) (n + 1)
theorem goneF_cl8 {row : List (List Int) → D → Option (List Int)} {most : Nat} (hrow : ∀ acc d c, (∀ a ∈ acc, Cl8 a) → row acc d = some c → Cl8 c) : ∀ {ds : List D} {acc : List (List Int)} {n : Nat}, (∀ a ∈ acc, Cl8 a) → ∀ a ∈ (goneF row most ds acc n).1, Cl8 a
  | [], acc, n, h => h
  | d :: ds, acc, n, h => by
    rw [goneF]
    split
    · exact h
    · rename_i c e
      split
      · exact h
      · refine goneF_cl8 hrow fun a ha => ?_
        rcases List.mem_append.mp ha with ha | ha
        · exact h a ha
        · rw [List.mem_singleton.mp ha]; exact hrow _ _ _ h e
def natD : Option Nat → D
  | none => .non
  | some n => .int n
/-- what is told of a list -/
def toldF (book : List (List Int)) (ds : List D) : List (List Int) × Option Nat :=
  if ds = [] then ([], some 0) else goneF (rowF book) 200 ds [] 0
def RowsOk (g : GH) (d : D) (ds : List D) : Prop := d = .lst ds ∨ ∃ p, d = .ref p ∧ g p = some (.lst ds)
def sp_gone_through : GSp := fun ds g Q _ => ∃ (book : List (List Int)) (d : D) (rows : List D), ds = [cls book, d] ∧ RowsOk g d rows ∧ rows.length ≤ 100000 ∧ (∀ r ∈ rows, RowOk r) ∧ (∀ c ∈ book, Cl8 c) ∧
  ∀ p, g p = none → Q (.v (.tup [.ref p, natD (toldF book rows).2])) (gup g p (.lst ((toldF book rows).1.map cl)))
end G3

/-! G2: rows, as the laws go through them -/
namespace G3
open PySem L2
local macro_rules | `(tactic| walk_at "wp") => `(tactic| simp only [wSs, wS, wE, wL, wO, wSq, wRet, wRetN, wAsg, wIf, wDrop, wFor, wPut, wNx, wArgs, wCons, wNil, wCall, wComp, wI, wB, wSeqT, wSeqL, wRng1, wRng2, wEnumL, wEnumT, wVar, wC, wBin, wUn, wNot, wAnd, wOr, wIte, wTest, wTrk, wSlc, wNoPart, wPart, fMt, List.getElem?_cons_succ, List.getElem?_cons_zero, tupOf, lstOf, gdOf, ex_eq, ex_eq', ex2_eq, ex2_eq', Bfn.f, Mth.f, compT, tgB, setAll, wipeD, wYes, List.map_cons, List.map_nil, List.set_cons_succ, List.set_cons_zero, List.length_cons, List.length_nil, Bop.f, Cop.f, Iop.f, fI2, fS2, fIx, fNeg, true_and, and_true, if_true, bodyEnds, R.fz_v, R.fz_tl, atI_0, atI_1, atI_2, atI_3, Option.some.injEq, DO.lst.injEq, decide_eq_true_eq, gup_same, gup_gup, or_false, ixN_s0, ixN_s1, ixN_s2, List.length_set, List.length_map, szl, Nat.reduceAdd, Nat.zero_add, Nat.reduceLeDiff, Nat.zero_le, Int.reduceLE, exists_eq', false_or, fAddT, fAddL, fSl, rolOf, Bool.not_true, Bool.not_false, Bool.false_eq_true, if_false, Bool.false_xor, Bool.xor_true, beq_self_eq_true, isiB_bb, isiB_ll, decide_true, isiB_tt, fIsN, isNon, wTry, wCallv, wRaise, setO, gonO, tryEnds, wMk, wMkAt, wAt, wRaiseAt, isKd, Mth.kd, eq_self, wDis, wDnK, wDnT, wDput, wPar, wRngD, wFld, wMeth, wNew, wSfld, wCh3, wPar3, wRevL, wDputM, wText, fInT, wIng, wSfld2, wDead, wLock, lckE, wLockE, wKeysL, fDIxL, fDmt, Dmt.f])
local macro_rules | `(tactic| walk_at "stp") => `(tactic| first | (rw [wHid_eq]; conv in (wSs _) => arg 1; whnf) | (conv in (wSs _) => arg 1; whnf))
local macro_rules | `(tactic| walk_at "wx") => `(tactic| simp only [wSs, wS, wE, wL, wO, wSq, wRet, wRetN, wAsg, wIf, wDrop, wFor, wPut, wNx, wArgs, wCons, wNil, wCall, wComp, wI, wB, wSeqT, wSeqL, wRng1, wRng2, wEnumL, wEnumT, wVar, wC, wBin, wUn, wNot, wAnd, wOr, wIte, wTest, wTrk, wSlc, wNoPart, wPart, fMt, List.getElem?_cons_succ, List.getElem?_cons_zero, tupOf, lstOf, gdOf, ex_eq, ex_eq', ex2_eq, ex2_eq', Bfn.f, Mth.f, compT, tgB, setAll, wipeD, wYes, List.map_cons, List.map_nil, List.set_cons_succ, List.set_cons_zero, List.length_cons, List.length_nil, Bop.f, Cop.f, Iop.f, fI2, fS2, fIx, fNeg, true_and, and_true, if_true, bodyEnds, R.fz_v, R.fz_tl, atI_0, atI_1, atI_2, atI_3, Option.some.injEq, DO.lst.injEq, decide_eq_true_eq, gup_same, gup_gup, or_false, ixN_s0, ixN_s1, ixN_s2, List.length_set, List.length_map, szl, Nat.reduceAdd, Nat.zero_add, Nat.reduceLeDiff, Nat.zero_le, Int.reduceLE, exists_eq', false_or, fAddT, fAddL, fSl, rolOf, Bool.not_true, Bool.not_false, Bool.false_eq_true, if_false, Bool.false_xor, Bool.xor_true, beq_self_eq_true, isiB_bb, isiB_ll, decide_true, isiB_tt, fIsN, isNon, wTry, wCallv, wRaise, setO, gonO, tryEnds, wMk, wMkAt, wAt, wRaiseAt, isKd, Mth.kd, eq_self, wDis, wDnK, wDnT, wDput, wPar, wRngD, wFld, wMeth, wNew, wSfld, wCh3, wPar3, wRevL, wDputM, wText, fInT, wIng, wSfld2, wDead, wLock, lckE, wLockE, wKeysL, fDIxL, fDmt, Dmt.f, eIn_tI, eIn_lI, eEq_tI, eEq_lI, eEq_tl, eEq_tl', eEq_bl, eEq_tN, eEq_lN, fIsE, Ufn.f, fSSet, fLSet, if_true, if_false, Bool.true_xor, Bool.xor_false, seqOf, fIxA, fSlA, fAddA, fInA, wSeqA, wEnumA, isKd, Mth.kd, fB2, okD_int, okD_bl, okDs_intsN, inD_ints, fRepL, fAddS, fIxS, eEq_int, wCh, fLRng, fRevT, fRow2, fTRng, fLSetT, fMaxD, wStp, fLz, wLockX, wDisE, Tfn.f, fDEq, fDInL, fDIxA])
theorem rowF_w {book claims : List (List Int)} {w : D} {ns : List Int} : rowF book claims (.tup (w :: ns.map .int)) =
    match ns with
    | [n] => if deq w (.str "book") = true ∧ 0 ≤ n then book[n.toNat]? else none
    | [i, j, k] => if deq w (.str "cut") = true ∧ 0 ≤ i ∧ 0 ≤ j then
        match claims[i.toNat]?, claims[j.toNat]? with
        | some a, some b => cutF a b k
        | _, _ => none
      else none
    | _ => none := by
  have h1 : (ns.map D.int).all isWholeB = true := by
    rw [List.all_map]; exact List.all_eq_true.mpr fun _ _ => rfl
  have h2 : (ns.map D.int).map sayI = ns := by
    rw [List.map_map]
    have : ns.map (sayI ∘ D.int) = ns.map id := List.map_congr_left fun _ _ => rfl
    simpa using this
  show (if (ns.map D.int).all isWholeB = true then _ else none) = _
  (rw [if_pos h1, h2]) <;> (rcases ns with _ | ⟨a, _ | ⟨b, _ | ⟨c, _ | _⟩⟩⟩ <;> rfl)
def sp_law_stold : GSp := sp_gone_through
/-- the cut rows of two rows, the ones that can be -/
def wayD (i j k : Int) : D := .tup [.str "cut", .int i, .int j, .int k]
theorem wayD_ok {i j k : Int} : RowOk (wayD i j k) := ⟨by
  show (okD 59 (.str "cut") && true) = true
  decide +kernel, fun es e => by cases e; simp⟩
def bookD (n : Int) : D := .tup [.str "book", .int n]
/-- a row behind others with claims, and its claim -/
def RowI (book claims : List (List Int)) (d : D) (c : List Int) : Prop :=
  (∃ n : Int, 0 ≤ n ∧ n < book.length ∧ d = bookD n) ∧ rowF book claims d = some c ∨
  (∃ i j k : Int, 0 ≤ i ∧ i < claims.length ∧ 0 ≤ j ∧ j < claims.length ∧ 1 ≤ k ∧ k ≤ 8 ∧ d = wayD i j k) ∧ rowF book claims d = some c
theorem RowI.row {book claims : List (List Int)} {d : D} {c : List Int} (h : RowI book claims d c) : rowF book claims d = some c := h.elim (·.2) (·.2)
theorem bookD_ok {n : Int} : RowOk (bookD n) := ⟨by
  show (okD 59 (.str "book") && true) = true
  decide +kernel, fun es e => by cases e; simp⟩
theorem RowI.ok {book claims : List (List Int)} {d : D} {c : List Int} (h : RowI book claims d c) : RowOk d := by
  rcases h with ⟨⟨n, -, -, rfl⟩, -⟩ | ⟨⟨i, j, k, -, -, -, -, -, -, rfl⟩, -⟩
  · exact bookD_ok
  · exact wayD_ok
/-- a ladder, with the claims of its rows -/
def Lad (book : List (List Int)) (rows : List D) (claims : List (List Int)) : Prop := rows.length = claims.length ∧ ∀ n d, rows[n]? = some d → ∃ c, claims[n]? = some c ∧ RowI book (claims.take n) d c
theorem Lad.gone {book : List (List Int)} {rows : List D} {claims : List (List Int)} (h : Lad book rows claims) (hl : rows.length ≤ 200) : goneF (rowF book) 200 rows [] 0 = (claims, none) := by
  have : ∀ k, k ≤ rows.length → goneF (rowF book) 200 rows [] 0 = goneF (rowF book) 200 (rows.drop k) (claims.take k) k := by
    intro k
    induction k with
    | zero => intro _; simp
    | succ k ih =>
      intro hk
      rw [ih (by omega)]
      have hk' : k < rows.length := by omega
      obtain ⟨c, hc, hr⟩ := h.2 k rows[k] (List.getElem?_eq_getElem hk')
      rw [List.drop_eq_getElem_cons hk', goneF, hr.row]
      show (if k = 200 then _ else _) = _
      rw [if_neg (by omega), List.take_add_one, hc]; rfl
  rw [this rows.length (Nat.le_refl _), List.drop_length, h.1, List.take_length]; rfl
theorem Lad.cl8 {book : List (List Int)} {rows : List D} {claims : List (List Int)} (h : Lad book rows claims) (hb : ∀ c ∈ book, Cl8 c) (hl : rows.length ≤ 200) : ∀ c ∈ claims, Cl8 c := by
  have e := h.gone hl
  have := goneF_cl8 (row := rowF book) (most := 200) (fun acc d c ha hr => rowF_cl8 hb ha hr) (ds := rows) (acc := []) (n := 0) (by simp)
  rw [e] at this
  exact this
theorem Lad.rows_ok {book : List (List Int)} {rows : List D} {claims : List (List Int)} (h : Lad book rows claims) : ∀ r ∈ rows, RowOk r := by
  intro r hr
  obtain ⟨n, hn⟩ := List.mem_iff_getElem?.mp hr
  obtain ⟨c, -, hi⟩ := h.2 n r hn
  exact hi.ok
def sp_law_sladder : GSp := fun ds g Q _ => ∃ (p : Addr) (o : DO) (n : Int) (book : List (List Int)) (many : Int), ds = [.ref p, cls book, .int many] ∧ g p = some o ∧ FeedO o n ∧ 0 ≤ n ∧ n ≤ 2 ^ 60 ∧
  1 ≤ book.length ∧ book.length ≤ 100 ∧ (∀ c ∈ book, Cl8 c) ∧ 1 ≤ many ∧ many ≤ 200 ∧
  ∀ rows claims o', Lad book rows claims → (rows.length : Int) = many → FeedO o' (n + 1 + 5 * many) → Q (.tl rows) (gup g p o')
end G3

/-! H1: claims and heights of ladders -/
namespace G3
open PySem L2
local macro_rules | `(tactic| walk_at "wp") => `(tactic| simp only [wSs, wS, wE, wL, wO, wSq, wRet, wRetN, wAsg, wIf, wDrop, wFor, wPut, wNx, wArgs, wCons, wNil, wCall, wComp, wI, wB, wSeqT, wSeqL, wRng1, wRng2, wEnumL, wEnumT, wVar, wC, wBin, wUn, wNot, wAnd, wOr, wIte, wTest, wTrk, wSlc, wNoPart, wPart, fMt, List.getElem?_cons_succ, List.getElem?_cons_zero, tupOf, lstOf, gdOf, ex_eq, ex_eq', ex2_eq, ex2_eq', Bfn.f, Mth.f, compT, tgB, setAll, wipeD, wYes, List.map_cons, List.map_nil, List.set_cons_succ, List.set_cons_zero, List.length_cons, List.length_nil, Bop.f, Cop.f, Iop.f, fI2, fS2, fIx, fNeg, true_and, and_true, if_true, bodyEnds, R.fz_v, R.fz_tl, atI_0, atI_1, atI_2, atI_3, Option.some.injEq, DO.lst.injEq, decide_eq_true_eq, gup_same, gup_gup, or_false, ixN_s0, ixN_s1, ixN_s2, List.length_set, List.length_map, szl, Nat.reduceAdd, Nat.zero_add, Nat.reduceLeDiff, Nat.zero_le, Int.reduceLE, exists_eq', false_or, fAddT, fAddL, fSl, rolOf, Bool.not_true, Bool.not_false, Bool.false_eq_true, if_false, Bool.false_xor, Bool.xor_true, beq_self_eq_true, isiB_bb, isiB_ll, decide_true, isiB_tt, fIsN, isNon, wTry, wCallv, wRaise, setO, gonO, tryEnds, wMk, wMkAt, wAt, wRaiseAt, isKd, Mth.kd, eq_self, wDis, wDnK, wDnT, wDput, wPar, wRngD, wFld, wMeth, wNew, wSfld, wCh3, wPar3, wRevL, wDputM, wText, fInT, wIng, wSfld2, wDead, wLock, lckE, wLockE, wKeysL, fDIxL, fDmt, Dmt.f])
local macro_rules | `(tactic| walk_at "stp") => `(tactic| first | (rw [wHid_eq]; conv in (wSs _) => arg 1; whnf) | (conv in (wSs _) => arg 1; whnf))
local macro_rules | `(tactic| walk_at "wx") => `(tactic| simp only [wSs, wS, wE, wL, wO, wSq, wRet, wRetN, wAsg, wIf, wDrop, wFor, wPut, wNx, wArgs, wCons, wNil, wCall, wComp, wI, wB, wSeqT, wSeqL, wRng1, wRng2, wEnumL, wEnumT, wVar, wC, wBin, wUn, wNot, wAnd, wOr, wIte, wTest, wTrk, wSlc, wNoPart, wPart, fMt, List.getElem?_cons_succ, List.getElem?_cons_zero, tupOf, lstOf, gdOf, ex_eq, ex_eq', ex2_eq, ex2_eq', Bfn.f, Mth.f, compT, tgB, setAll, wipeD, wYes, List.map_cons, List.map_nil, List.set_cons_succ, List.set_cons_zero, List.length_cons, List.length_nil, Bop.f, Cop.f, Iop.f, fI2, fS2, fIx, fNeg, true_and, and_true, if_true, bodyEnds, R.fz_v, R.fz_tl, atI_0, atI_1, atI_2, atI_3, Option.some.injEq, DO.lst.injEq, decide_eq_true_eq, gup_same, gup_gup, or_false, ixN_s0, ixN_s1, ixN_s2, List.length_set, List.length_map, szl, Nat.reduceAdd, Nat.zero_add, Nat.reduceLeDiff, Nat.zero_le, Int.reduceLE, exists_eq', false_or, fAddT, fAddL, fSl, rolOf, Bool.not_true, Bool.not_false, Bool.false_eq_true, if_false, Bool.false_xor, Bool.xor_true, beq_self_eq_true, isiB_bb, isiB_ll, decide_true, isiB_tt, fIsN, isNon, wTry, wCallv, wRaise, setO, gonO, tryEnds, wMk, wMkAt, wAt, wRaiseAt, isKd, Mth.kd, eq_self, wDis, wDnK, wDnT, wDput, wPar, wRngD, wFld, wMeth, wNew, wSfld, wCh3, wPar3, wRevL, wDputM, wText, fInT, wIng, wSfld2, wDead, wLock, lckE, wLockE, wKeysL, fDIxL, fDmt, Dmt.f, eIn_tI, eIn_lI, eEq_tI, eEq_lI, eEq_tl, eEq_tl', eEq_bl, eEq_tN, eEq_lN, fIsE, Ufn.f, fSSet, fLSet, if_true, if_false, Bool.true_xor, Bool.xor_false, seqOf, fIxA, fSlA, fAddA, fInA, wSeqA, wEnumA, isKd, Mth.kd, fB2, okD_int, okD_bl, okDs_intsN, inD_ints, fRepL, fAddS, fIxS, eEq_int, wCh, fLRng, fRevT, fRow2, fTRng, fLSetT, fMaxD, wStp, fLz, wLockX, wDisE, Tfn.f, fDEq, fDInL, fDIxA])
theorem Lad.at {book : List (List Int)} {rows : List D} {claims : List (List Int)} {i : Nat} {d : D} (h : Lad book rows claims) (hd : rows[i]? = some d) :
    (∃ n : Int, 0 ≤ n ∧ n < book.length ∧ d = bookD n) ∨ ∃ a b k : Int, 0 ≤ a ∧ a < i ∧ 0 ≤ b ∧ b < i ∧ 1 ≤ k ∧ k ≤ 8 ∧ d = wayD a b k := by
  obtain ⟨c, -, hi⟩ := h.2 i d hd
  have hl : (claims.take i).length ≤ i := by rw [List.length_take]; omega
  rcases hi with ⟨⟨n, h1, h2, e⟩, -⟩ | ⟨⟨a, b, k, h1, h2, h3, h4, h5, h6, e⟩, -⟩
  · exact .inl ⟨n, h1, h2, e⟩
  · exact .inr ⟨a, b, k, h1, by omega, h3, by omega, h5, h6, e⟩
mutual
theorem eqv_self : ∀ d : D, PyData.eqv (pd d) (pd d) = true
  | .non => rfl
  | .bl b => by simp [pd, PyData.eqv]
  | .int i => by simp [pd, PyData.eqv]
  | .str x => by simp [pd, PyData.eqv]
  | .ty _ => rfl
  | .ref _ => rfl
  | .tup ds => by rw [pd, PyData.eqv]; exact eqvs_self ds
  | .lst ds => by rw [pd, PyData.eqv]; exact eqvs_self ds
  | .rl _ => rfl
  | .gl _ => rfl
  | .exc _ _ => rfl
theorem eqvs_self : ∀ ds : List D, PyData.eqvAll (pds ds) (pds ds) = true
  | [] => rfl
  | d :: ds => by rw [pds, PyData.eqvAll, eqv_self d, eqvs_self ds]; rfl
end
/-- a thing is as itself -/
theorem deq_self (d : D) : deq d d = true := eqv_self d
/-- a row and its claim -/
theorem Lad.atC {book : List (List Int)} {rows : List D} {claims : List (List Int)} {i : Nat} {d : D} (h : Lad book rows claims) (hd : rows[i]? = some d) :
    ∃ c, claims[i]? = some c ∧ ((∃ n : Int, 0 ≤ n ∧ n < book.length ∧ d = bookD n ∧ book[n.toNat]? = some c) ∨ ∃ (a b k : Int) (x y : List Int), 0 ≤ a ∧ a < i ∧ 0 ≤ b ∧ b < i ∧ 1 ≤ k ∧ k ≤ 8 ∧ d = wayD a b k ∧ claims[a.toNat]? = some x ∧ claims[b.toNat]? = some y ∧ cutF x y k = some c) := by
  obtain ⟨c, hc, hi⟩ := h.2 i d hd
  refine ⟨c, hc, ?_⟩
  have hl : (claims.take i).length ≤ i := by rw [List.length_take]; omega
  rcases hi with ⟨⟨n, h1, h2, rfl⟩, e⟩ | ⟨⟨a, b, k, h1, h2, h3, h4, h5, h6, rfl⟩, e⟩
  · refine .inl ⟨n, h1, h2, rfl, ?_⟩
    have := e
    rw [show bookD n = .tup (.str "book" :: [n].map .int) from rfl, rowF_w] at this
    exact (if_pos (c := deq (.str "book") (.str "book") = true ∧ 0 ≤ n) ⟨deq_self _, h1⟩).symm.trans this
  · have e2 := e
    rw [show wayD a b k = .tup (.str "cut" :: [a, b, k].map .int) from rfl, rowF_w] at e2
    replace e2 := (if_pos (c := deq (.str "cut") (.str "cut") = true ∧ 0 ≤ a ∧ 0 ≤ b) ⟨deq_self _, h1, h3⟩).symm.trans e2
    split at e2
    · rename_i x y ex ey
      rw [List.getElem?_take_of_lt (by omega)] at ex ey
      exact .inr ⟨a, b, k, x, y, h1, by omega, h3, by omega, h5, h6, rfl, ex, ey, e2⟩
    · cases e2
theorem Lad.told {book : List (List Int)} {rows : List D} {claims : List (List Int)} (h : Lad book rows claims) (h1 : 1 ≤ rows.length) (h2 : rows.length ≤ 200) : toldF book rows = (claims, none) := by
  unfold toldF
  rw [if_neg (fun e => by rw [e] at h1; exact absurd h1 (by decide)), h.gone h2]
end G3

/-! M1: those, without, core -/
namespace G3
open PySem L2
local macro_rules | `(tactic| walk_at "wp") => `(tactic| simp only [wSs, wS, wE, wL, wO, wSq, wRet, wRetN, wAsg, wIf, wDrop, wFor, wPut, wNx, wArgs, wCons, wNil, wCall, wComp, wI, wB, wSeqT, wSeqL, wRng1, wRng2, wEnumL, wEnumT, wVar, wC, wBin, wUn, wNot, wAnd, wOr, wIte, wTest, wTrk, wSlc, wNoPart, wPart, fMt, List.getElem?_cons_succ, List.getElem?_cons_zero, tupOf, lstOf, gdOf, ex_eq, ex_eq', ex2_eq, ex2_eq', Bfn.f, Mth.f, compT, tgB, setAll, wipeD, wYes, List.map_cons, List.map_nil, List.set_cons_succ, List.set_cons_zero, List.length_cons, List.length_nil, Bop.f, Cop.f, Iop.f, fI2, fS2, fIx, fNeg, true_and, and_true, if_true, bodyEnds, R.fz_v, R.fz_tl, atI_0, atI_1, atI_2, atI_3, Option.some.injEq, DO.lst.injEq, decide_eq_true_eq, gup_same, gup_gup, or_false, ixN_s0, ixN_s1, ixN_s2, List.length_set, List.length_map, szl, Nat.reduceAdd, Nat.zero_add, Nat.reduceLeDiff, Nat.zero_le, Int.reduceLE, exists_eq', false_or, fAddT, fAddL, fSl, rolOf, Bool.not_true, Bool.not_false, Bool.false_eq_true, if_false, Bool.false_xor, Bool.xor_true, beq_self_eq_true, isiB_bb, isiB_ll, decide_true, isiB_tt, fIsN, isNon, wTry, wCallv, wRaise, setO, gonO, tryEnds, wMk, wMkAt, wAt, wRaiseAt, isKd, Mth.kd, eq_self, wDis, wDnK, wDnT, wDput, wPar, wRngD, wFld, wMeth, wNew, wSfld, wCh3, wPar3, wRevL, wDputM, wText, fInT, wIng, wSfld2, wDead, wLock, lckE, wLockE, wKeysL, fDIxL, fDmt, Dmt.f])
local macro_rules | `(tactic| walk_at "stp") => `(tactic| first | (rw [wHid_eq]; conv in (wSs _) => arg 1; whnf) | (conv in (wSs _) => arg 1; whnf))
local macro_rules | `(tactic| walk_at "wx") => `(tactic| simp only [wSs, wS, wE, wL, wO, wSq, wRet, wRetN, wAsg, wIf, wDrop, wFor, wPut, wNx, wArgs, wCons, wNil, wCall, wComp, wI, wB, wSeqT, wSeqL, wRng1, wRng2, wEnumL, wEnumT, wVar, wC, wBin, wUn, wNot, wAnd, wOr, wIte, wTest, wTrk, wSlc, wNoPart, wPart, fMt, List.getElem?_cons_succ, List.getElem?_cons_zero, tupOf, lstOf, gdOf, ex_eq, ex_eq', ex2_eq, ex2_eq', Bfn.f, Mth.f, compT, tgB, setAll, wipeD, wYes, List.map_cons, List.map_nil, List.set_cons_succ, List.set_cons_zero, List.length_cons, List.length_nil, Bop.f, Cop.f, Iop.f, fI2, fS2, fIx, fNeg, true_and, and_true, if_true, bodyEnds, R.fz_v, R.fz_tl, atI_0, atI_1, atI_2, atI_3, Option.some.injEq, DO.lst.injEq, decide_eq_true_eq, gup_same, gup_gup, or_false, ixN_s0, ixN_s1, ixN_s2, List.length_set, List.length_map, szl, Nat.reduceAdd, Nat.zero_add, Nat.reduceLeDiff, Nat.zero_le, Int.reduceLE, exists_eq', false_or, fAddT, fAddL, fSl, rolOf, Bool.not_true, Bool.not_false, Bool.false_eq_true, if_false, Bool.false_xor, Bool.xor_true, beq_self_eq_true, isiB_bb, isiB_ll, decide_true, isiB_tt, fIsN, isNon, wTry, wCallv, wRaise, setO, gonO, tryEnds, wMk, wMkAt, wAt, wRaiseAt, isKd, Mth.kd, eq_self, wDis, wDnK, wDnT, wDput, wPar, wRngD, wFld, wMeth, wNew, wSfld, wCh3, wPar3, wRevL, wDputM, wText, fInT, wIng, wSfld2, wDead, wLock, lckE, wLockE, wKeysL, fDIxL, fDmt, Dmt.f, eIn_tI, eIn_lI, eEq_tI, eEq_lI, eEq_tl, eEq_tl', eEq_bl, eEq_tN, eEq_lN, fIsE, Ufn.f, fSSet, fLSet, if_true, if_false, Bool.true_xor, Bool.xor_false, seqOf, fIxA, fSlA, fAddA, fInA, wSeqA, wEnumA, isKd, Mth.kd, fB2, okD_int, okD_bl, okDs_intsN, inD_ints, fRepL, fAddS, fIxS, eEq_int, wCh, fLRng, fRevT, fRow2, fTRng, fLSetT, fMaxD, wStp, fLz, wLockX, wDisE, Tfn.f, fDEq, fDInL, fDIxA])
/-- the claims of some numbers -/
def thoseL (book : List (List Int)) (ns : List Int) : List (List Int) := ns.map fun n => book.getD n.toNat []
theorem getD_book {book : List (List Int)} {n : Int} (h0 : 0 ≤ n) (h1 : n < book.length) : book[n.toNat]? = some (book.getD n.toNat []) := by
  have h : n.toNat < book.length := by omega
  rw [List.getD_eq_getElem?_getD, List.getElem?_eq_getElem h]; rfl
theorem atI_clI {cs : List (List Int)} {i : Int} {c : List Int} (h0 : 0 ≤ i) (h : cs[i.toNat]? = some c) : L2.atI (cs.map cl) i = some (cl c) := by
  obtain ⟨n, rfl⟩ : ∃ n : Nat, i = n := ⟨i.toNat, by omega⟩
  rw [atI_nat', List.getElem?_map, show cs[n]? = some c by simpa using h]; rfl
def n_those : List Str := ["book", "numbers", "number"]
def b_those : Sl := .cons (.ret (.blf .tuple (.cons (.comp [("number", 2)] (.seqA (.var 1)) (.nm 2) (.no) (.idx .t (.var 0) (.var 2))) (.nil)))) (.nil)
def sp_those : GSp := fun ds g Q _ => ∃ (book : List (List Int)) (d : D) (ns : List Int), ds = [cls book, d] ∧ (d = .lst (ns.map .int) ∨ d = .tup (ns.map .int)) ∧ ns.length ≤ 1000 ∧ (∀ n ∈ ns, 0 ≤ n ∧ n < book.length) ∧ Q (.v (cls (thoseL book ns))) g
theorem w_those : ∀ ds g Q W, sp_those ds g Q W → wSs b_those (bodyEnds g Q W) (startD 3 ds) g := by
  rintro ds g Q W ⟨book, d, ns, rfl, hd, hl, hn, h⟩
  change wSs _ _ [some _, some _, none] g
  rcases hd with rfl | rfl
  all_goals
    walk_at "stp"; walk_at "wx"
    refine compW_m D.int (fun n => cl (book.getD n.toNat [])) trivial (fun n hm P hP => by
      obtain ⟨h0, h1⟩ := hn n hm
      walk_at "wx"
      exact ⟨_, atI_clI h0 (getD_book h0 h1), hP⟩) (by rw [szl]; omega) ?_
    refine .same ?_
    have e : D.tup (ns.map fun n => cl (book.getD n.toNat [])) = cls (thoseL book ns) := by
      show _ = D.tup (List.map cl (ns.map _)); rw [List.map_map]; rfl
    rw [e]; exact h
def n_law_sthose : List Str := ["book", "numbers", "number"]
def b_law_sthose : Sl := .cons (.ret (.comp [("number", 2)] (.seqA (.var 1)) (.nm 2) (.no) (.idx .t (.var 0) (.var 2)))) (.nil)
def sp_law_sthose : GSp := fun ds g Q _ => ∃ (book : List (List Int)) (d : D) (ns : List Int), ds = [cls book, d] ∧ (d = .lst (ns.map .int) ∨ d = .tup (ns.map .int)) ∧ ns.length ≤ 1000 ∧ (∀ n ∈ ns, 0 ≤ n ∧ n < book.length) ∧ Q (.tl ((thoseL book ns).map cl)) g
theorem w_law_sthose : ∀ ds g Q W, sp_law_sthose ds g Q W → wSs b_law_sthose (bodyEnds g Q W) (startD 3 ds) g := by
  rintro ds g Q W ⟨book, d, ns, rfl, hd, hl, hn, h⟩
  change wSs _ _ [some _, some _, none] g
  rcases hd with rfl | rfl
  all_goals
    walk_at "stp"; walk_at "wx"
    refine compW_m D.int (fun n => cl (book.getD n.toNat [])) trivial (fun n hm P hP => by
      obtain ⟨h0, h1⟩ := hn n hm
      walk_at "wx"
      exact ⟨_, atI_clI h0 (getD_book h0 h1), hP⟩) (by rw [szl]; omega) ?_
    refine .same ?_
    have e : (ns.map fun n => cl (book.getD n.toNat [])) = (thoseL book ns).map cl := by
      unfold thoseL; rw [List.map_map]; rfl
    rw [e]; exact h
def rngI (n : Nat) : List Int := (List.range n).map fun (i : Nat) => (0 + (i : Int))
theorem rngD_ints (n : Nat) : rngD 0 n = (rngI n).map D.int := by unfold rngD rngI; rw [List.map_map]; rfl
theorem rngI_mem {n : Nat} {z : Int} : z ∈ rngI n ↔ 0 ≤ z ∧ z < n := by
  unfold rngI
  rw [List.mem_map]
  constructor
  · rintro ⟨i, hi, rfl⟩
    have := List.mem_range.mp hi; omega
  · rintro ⟨h0, h1⟩
    exact ⟨z.toNat, List.mem_range.mpr (by omega), by omega⟩
theorem rngI_len (n : Nat) : (rngI n).length = n := by unfold rngI; rw [List.length_map, List.length_range]
theorem those_mem {book : List (List Int)} {ns : List Int} (hn : ∀ n ∈ ns, 0 ≤ n ∧ n < book.length) : ∀ c ∈ thoseL book ns, c ∈ book := by
  intro c hc
  obtain ⟨n, hm, rfl⟩ := List.mem_map.mp hc
  obtain ⟨h0, h1⟩ := hn n hm
  exact List.mem_of_getElem? (getD_book h0 h1)
end G3

/-! G5: things that are shown, with great numbers too -/
namespace G3
open PySem L2
local macro_rules | `(tactic| walk_at "wp") => `(tactic| simp only [wSs, wS, wE, wL, wO, wSq, wRet, wRetN, wAsg, wIf, wDrop, wFor, wPut, wNx, wArgs, wCons, wNil, wCall, wComp, wI, wB, wSeqT, wSeqL, wRng1, wRng2, wEnumL, wEnumT, wVar, wC, wBin, wUn, wNot, wAnd, wOr, wIte, wTest, wTrk, wSlc, wNoPart, wPart, fMt, List.getElem?_cons_succ, List.getElem?_cons_zero, tupOf, lstOf, gdOf, ex_eq, ex_eq', ex2_eq, ex2_eq', Bfn.f, Mth.f, compT, tgB, setAll, wipeD, wYes, List.map_cons, List.map_nil, List.set_cons_succ, List.set_cons_zero, List.length_cons, List.length_nil, Bop.f, Cop.f, Iop.f, fI2, fS2, fIx, fNeg, true_and, and_true, if_true, bodyEnds, R.fz_v, R.fz_tl, atI_0, atI_1, atI_2, atI_3, Option.some.injEq, DO.lst.injEq, decide_eq_true_eq, gup_same, gup_gup, or_false, ixN_s0, ixN_s1, ixN_s2, List.length_set, List.length_map, szl, Nat.reduceAdd, Nat.zero_add, Nat.reduceLeDiff, Nat.zero_le, Int.reduceLE, exists_eq', false_or, fAddT, fAddL, fSl, rolOf, Bool.not_true, Bool.not_false, Bool.false_eq_true, if_false, Bool.false_xor, Bool.xor_true, beq_self_eq_true, isiB_bb, isiB_ll, decide_true, isiB_tt, fIsN, isNon, wTry, wCallv, wRaise, setO, gonO, tryEnds, wMk, wMkAt, wAt, wRaiseAt, isKd, Mth.kd, eq_self, wDis, wDnK, wDnT, wDput, wPar, wRngD, wFld, wMeth, wNew, wSfld, wCh3, wPar3, wRevL, wDputM, wText, fInT, wIng, wSfld2, wDead, wLock, lckE, wLockE, wKeysL, fDIxL, fDmt, Dmt.f])
local macro_rules | `(tactic| walk_at "stp") => `(tactic| first | (rw [wHid_eq]; conv in (wSs _) => arg 1; whnf) | (conv in (wSs _) => arg 1; whnf))
local macro_rules | `(tactic| walk_at "wx") => `(tactic| simp only [wSs, wS, wE, wL, wO, wSq, wRet, wRetN, wAsg, wIf, wDrop, wFor, wPut, wNx, wArgs, wCons, wNil, wCall, wComp, wI, wB, wSeqT, wSeqL, wRng1, wRng2, wEnumL, wEnumT, wVar, wC, wBin, wUn, wNot, wAnd, wOr, wIte, wTest, wTrk, wSlc, wNoPart, wPart, fMt, List.getElem?_cons_succ, List.getElem?_cons_zero, tupOf, lstOf, gdOf, ex_eq, ex_eq', ex2_eq, ex2_eq', Bfn.f, Mth.f, compT, tgB, setAll, wipeD, wYes, List.map_cons, List.map_nil, List.set_cons_succ, List.set_cons_zero, List.length_cons, List.length_nil, Bop.f, Cop.f, Iop.f, fI2, fS2, fIx, fNeg, true_and, and_true, if_true, bodyEnds, R.fz_v, R.fz_tl, atI_0, atI_1, atI_2, atI_3, Option.some.injEq, DO.lst.injEq, decide_eq_true_eq, gup_same, gup_gup, or_false, ixN_s0, ixN_s1, ixN_s2, List.length_set, List.length_map, szl, Nat.reduceAdd, Nat.zero_add, Nat.reduceLeDiff, Nat.zero_le, Int.reduceLE, exists_eq', false_or, fAddT, fAddL, fSl, rolOf, Bool.not_true, Bool.not_false, Bool.false_eq_true, if_false, Bool.false_xor, Bool.xor_true, beq_self_eq_true, isiB_bb, isiB_ll, decide_true, isiB_tt, fIsN, isNon, wTry, wCallv, wRaise, setO, gonO, tryEnds, wMk, wMkAt, wAt, wRaiseAt, isKd, Mth.kd, eq_self, wDis, wDnK, wDnT, wDput, wPar, wRngD, wFld, wMeth, wNew, wSfld, wCh3, wPar3, wRevL, wDputM, wText, fInT, wIng, wSfld2, wDead, wLock, lckE, wLockE, wKeysL, fDIxL, fDmt, Dmt.f, eIn_tI, eIn_lI, eEq_tI, eEq_lI, eEq_tl, eEq_tl', eEq_bl, eEq_tN, eEq_lN, fIsE, Ufn.f, fSSet, fLSet, if_true, if_false, Bool.true_xor, Bool.xor_false, seqOf, fIxA, fSlA, fAddA, fInA, wSeqA, wEnumA, isKd, Mth.kd, fB2, okD_int, okD_bl, okDs_intsN, inD_ints, fRepL, fAddS, fIxS, eEq_int, wCh, fLRng, fRevT, fRow2, fTRng, fLSetT, fMaxD, wStp, fLz, wLockX, wDisE, Tfn.f, fDEq, fDInL, fDIxA])
/-- data nested n at the most, of a weight up to w, its numbers of up to forty-four signs -/
def Sx (n w : Nat) (d : D) : Prop := okD n d = true ∧ (pd d).intsShort 44 = true ∧ (pd d).showable = true ∧ (pd d).weight ≤ w
theorem Sx.up {n m w u : Nat} {d : D} (h : Sx n w d) (hn : n ≤ m) (hw : w ≤ u) : Sx m u d := ⟨okD_more n m hn d h.1, h.2.1, h.2.2.1, Nat.le_trans h.2.2.2 hw⟩
theorem Sx.int {n : Nat} {i : Int} (h : i.natAbs < 10 ^ 12) : Sx n 140 (.int i) := by
  obtain ⟨h1, h2, h3, h4⟩ := Sh.int (n := n) h
  refine ⟨h1, ?_, h3, by omega⟩
  simp only [pd, PyData.intsShort, decide_eq_true_eq] at h2 ⊢
  omega
theorem Sx.bl {n w : Nat} {b : Bool} : Sx n w (.bl b) := ⟨okD_bl, rfl, rfl, Nat.zero_le _⟩
def Sxs (n w : Nat) (ds : List D) : Prop := ∀ d ∈ ds, Sx n w d
theorem Sxs.alls {n w : Nat} : ∀ {xs : List D}, Sxs n w xs → okDs n xs = true ∧ PyData.intsShortAll 44 (pds xs) = true ∧ PyData.showableAll (pds xs) = true ∧ PyData.weightAll (pds xs) ≤ xs.length * (w + 1)
  | [], _ => ⟨by simp [okDs], rfl, rfl, by simp [pds, PyData.weightAll]⟩
  | x :: xs, h => by
    obtain ⟨a1, a2, a3, a4⟩ := h x List.mem_cons_self
    obtain ⟨b1, b2, b3, b4⟩ := Sxs.alls (xs := xs) fun y hy => h y (List.mem_cons_of_mem _ hy)
    refine ⟨by simp only [okDs, a1, b1, Bool.and_self], by simp only [pds, PyData.intsShortAll, a2, b2, Bool.and_self], by simp only [pds, PyData.showableAll, a3, b3, Bool.and_self], ?_⟩
    simp only [pds, PyData.weightAll, List.length_cons, Nat.add_mul, Nat.one_mul]
    omega
theorem Sxs.tup {n w u : Nat} {xs : List D} (h : Sxs n w xs) (hu : xs.length * (w + 1) ≤ u) : Sx (n + 1) u (.tup xs) := by
  obtain ⟨b1, b2, b3, b4⟩ := h.alls
  exact ⟨by rw [okD]; exact b1, by rw [pd, PyData.intsShort]; exact b2, by rw [pd, PyData.showable]; exact b3, by rw [pd, PyData.weight]; omega⟩
theorem Sx.len {n w : Nat} {d : D} (h : Sx n w d) (hn : n ≤ 60) (hw : w ≤ 300000) : (pd d).shown.length ≤ sizeLine := by
  have h1 := PyData.shown_le 44 (by decide) (pd d) (PyData.leavesShort_of_canLay0 44 _ (okD_lay n d h.1).1 h.2.1)
  have h2 := h.2.2.2
  rw [szl]
  omega
theorem Sx.three {n w : Nat} {d : D} {P : Prop} (h : Sx n w d) (hn : n ≤ 60) (hw : w ≤ 300000) (q : P) : okD 60 d = true ∧ (pd d).showable = true ∧ (pd d).shown.length ≤ 16777216 ∧ P :=
  ⟨okD_more n 60 hn d h.1, h.2.2.1, h.len hn hw, q⟩
end G3

/-! M2: books, claims and all their things, drawn -/
namespace G3
open PySem L2
local macro_rules | `(tactic| walk_at "wp") => `(tactic| simp only [wSs, wS, wE, wL, wO, wSq, wRet, wRetN, wAsg, wIf, wDrop, wFor, wPut, wNx, wArgs, wCons, wNil, wCall, wComp, wI, wB, wSeqT, wSeqL, wRng1, wRng2, wEnumL, wEnumT, wVar, wC, wBin, wUn, wNot, wAnd, wOr, wIte, wTest, wTrk, wSlc, wNoPart, wPart, fMt, List.getElem?_cons_succ, List.getElem?_cons_zero, tupOf, lstOf, gdOf, ex_eq, ex_eq', ex2_eq, ex2_eq', Bfn.f, Mth.f, compT, tgB, setAll, wipeD, wYes, List.map_cons, List.map_nil, List.set_cons_succ, List.set_cons_zero, List.length_cons, List.length_nil, Bop.f, Cop.f, Iop.f, fI2, fS2, fIx, fNeg, true_and, and_true, if_true, bodyEnds, R.fz_v, R.fz_tl, atI_0, atI_1, atI_2, atI_3, Option.some.injEq, DO.lst.injEq, decide_eq_true_eq, gup_same, gup_gup, or_false, ixN_s0, ixN_s1, ixN_s2, List.length_set, List.length_map, szl, Nat.reduceAdd, Nat.zero_add, Nat.reduceLeDiff, Nat.zero_le, Int.reduceLE, exists_eq', false_or, fAddT, fAddL, fSl, rolOf, Bool.not_true, Bool.not_false, Bool.false_eq_true, if_false, Bool.false_xor, Bool.xor_true, beq_self_eq_true, isiB_bb, isiB_ll, decide_true, isiB_tt, fIsN, isNon, wTry, wCallv, wRaise, setO, gonO, tryEnds, wMk, wMkAt, wAt, wRaiseAt, isKd, Mth.kd, eq_self, wDis, wDnK, wDnT, wDput, wPar, wRngD, wFld, wMeth, wNew, wSfld, wCh3, wPar3, wRevL, wDputM, wText, fInT, wIng, wSfld2, wDead, wLock, lckE, wLockE, wKeysL, fDIxL, fDmt, Dmt.f])
local macro_rules | `(tactic| walk_at "stp") => `(tactic| first | (rw [wHid_eq]; conv in (wSs _) => arg 1; whnf) | (conv in (wSs _) => arg 1; whnf))
local macro_rules | `(tactic| walk_at "wx") => `(tactic| simp only [wSs, wS, wE, wL, wO, wSq, wRet, wRetN, wAsg, wIf, wDrop, wFor, wPut, wNx, wArgs, wCons, wNil, wCall, wComp, wI, wB, wSeqT, wSeqL, wRng1, wRng2, wEnumL, wEnumT, wVar, wC, wBin, wUn, wNot, wAnd, wOr, wIte, wTest, wTrk, wSlc, wNoPart, wPart, fMt, List.getElem?_cons_succ, List.getElem?_cons_zero, tupOf, lstOf, gdOf, ex_eq, ex_eq', ex2_eq, ex2_eq', Bfn.f, Mth.f, compT, tgB, setAll, wipeD, wYes, List.map_cons, List.map_nil, List.set_cons_succ, List.set_cons_zero, List.length_cons, List.length_nil, Bop.f, Cop.f, Iop.f, fI2, fS2, fIx, fNeg, true_and, and_true, if_true, bodyEnds, R.fz_v, R.fz_tl, atI_0, atI_1, atI_2, atI_3, Option.some.injEq, DO.lst.injEq, decide_eq_true_eq, gup_same, gup_gup, or_false, ixN_s0, ixN_s1, ixN_s2, List.length_set, List.length_map, szl, Nat.reduceAdd, Nat.zero_add, Nat.reduceLeDiff, Nat.zero_le, Int.reduceLE, exists_eq', false_or, fAddT, fAddL, fSl, rolOf, Bool.not_true, Bool.not_false, Bool.false_eq_true, if_false, Bool.false_xor, Bool.xor_true, beq_self_eq_true, isiB_bb, isiB_ll, decide_true, isiB_tt, fIsN, isNon, wTry, wCallv, wRaise, setO, gonO, tryEnds, wMk, wMkAt, wAt, wRaiseAt, isKd, Mth.kd, eq_self, wDis, wDnK, wDnT, wDput, wPar, wRngD, wFld, wMeth, wNew, wSfld, wCh3, wPar3, wRevL, wDputM, wText, fInT, wIng, wSfld2, wDead, wLock, lckE, wLockE, wKeysL, fDIxL, fDmt, Dmt.f, eIn_tI, eIn_lI, eEq_tI, eEq_lI, eEq_tl, eEq_tl', eEq_bl, eEq_tN, eEq_lN, fIsE, Ufn.f, fSSet, fLSet, if_true, if_false, Bool.true_xor, Bool.xor_false, seqOf, fIxA, fSlA, fAddA, fInA, wSeqA, wEnumA, isKd, Mth.kd, fB2, okD_int, okD_bl, okDs_intsN, inD_ints, fRepL, fAddS, fIxS, eEq_int, wCh, fLRng, fRevT, fRow2, fTRng, fLSetT, fMaxD, wStp, fLz, wLockX, wDisE, Tfn.f, fDEq, fDInL, fDIxA])
/-- a book, a claim, and things among which all theirs are -/
def CaseOk (book : List (List Int)) (claim every : List Int) : Prop := 1 ≤ book.length ∧ book.length ≤ 17 ∧ (∀ c ∈ book, Cl8 c) ∧ Cl8 claim ∧ every.length ≤ 8 ∧ (∀ t ∈ every, 1 ≤ t ∧ t ≤ 8) ∧
  ∀ c ∈ book ++ [claim], ∀ z ∈ c, (z.natAbs : Int) ∈ every
/-- what is said in a ladder is said in the book -/
theorem Lad.says {book : List (List Int)} {rows : List D} {claims : List (List Int)} (h : Lad book rows claims) : ∀ (n : Nat) (c : List Int), claims[n]? = some c → ∀ z ∈ c, ∃ b ∈ book, z ∈ b := by
  intro n
  induction n using Nat.strongRecOn with
  | _ n ih =>
    intro c hc
    obtain ⟨d, hd⟩ : ∃ d, rows[n]? = some d := by
      have := (List.getElem?_eq_some_iff.mp hc).1
      exact ⟨_, List.getElem?_eq_getElem (by rw [h.1]; exact this)⟩
    obtain ⟨c', hc', hi⟩ := h.atC hd
    rw [hc] at hc'; cases hc'
    rcases hi with ⟨n, h1, h2, rfl, e⟩ | ⟨a, b, k, x, y, h1, h2, h3, h4, h5, h6, rfl, ex, ey, e⟩
    · exact fun z hz => ⟨c, List.mem_of_getElem? e, hz⟩
    · obtain ⟨-, -, -, rfl, -⟩ := cutF_ok e
      intro z hz
      rcases allSays_mem.mp (usort_mem.mp hz) with ⟨m, -⟩ | ⟨m, -⟩
      · exact ih a.toNat (by omega) x ex z m
      · exact ih b.toNat (by omega) y ey z m
theorem perm8 {things left : List Int} (hpm : (things ++ left).Perm [1, 2, 3, 4, 5, 6, 7, 8]) : (∀ x ∈ things, 1 ≤ x ∧ x ≤ 8) ∧ things.Nodup ∧ things.length ≤ 8 := by
  refine ⟨fun x hx => ?_, (List.nodup_append.mp (hpm.nodup_iff.mpr (by decide))).1, ?_⟩
  · have := hpm.mem_iff.mp (List.mem_append_left _ hx)
    simp only [List.mem_cons, List.not_mem_nil, or_false] at this
    omega
  · have := hpm.length_eq
    simp only [List.length_append, List.length_cons, List.length_nil] at this
    omega
theorem nil8 : Cl8 [] := ⟨by simp, fun s hs => (by cases hs), fun z hz => (by cases hz)⟩
def n_law_sis_against : List Str := ["claims", "claim", "setting"]
def b_law_sis_against_3 : Sl := .cons (.ret (.call "_law_sall_hold" sp_law_sall_hold (.cons (.var 0) (.cons (.var 2) (.nil))))) (.nil)
def b_law_sis_against : Sl := .cons (.ifs (.or (.not (.call "_law_sis_setting" sp_law_sis_setting (.cons (.var 2) (.nil)))) (.call "_law_sholds" sp_law_sholds (.cons (.var 1) (.cons (.var 2) (.nil))))) (.cons (.ret (.cst (.bl false))) (.nil)) (.nil)) (.part b_law_sis_against_3)
def sp_law_sis_against : GSp := fun ds g Q _ => ∃ (d : D) (book : List (List Int)) (claim : List Int) (s : List Bool), ds = [d, cl claim, bls s] ∧ ClsA d book ∧ s.length = 8 ∧ Said8 claim ∧ book.length ≤ 1000 ∧ (∀ c ∈ book, Said8 c) ∧ Q (.v (.bl (against book claim s))) g
theorem w_law_sis_against : ∀ ds g Q W, sp_law_sis_against ds g Q W → wSs b_law_sis_against (bodyEnds g Q W) (startD 3 ds) g := by
  rintro ds g Q W ⟨d, book, claim, s, rfl, hd, h8, hc, hb, hs, h⟩
  change wSs _ _ [some _, some _, some _] g
  walk_at "stp"; walk_at "wx"
  refine ⟨s, rfl, h8, ?_⟩
  walk_at "wx"
  refine ⟨claim, s, rfl, h8, hc, ?_⟩
  unfold against at h
  cases e : holdsB claim s with
  | true =>
    rw [e] at h
    walk_at "wx"
    exact .same h
  | false =>
    rw [e] at h
    walk_at "wx"
    walk_at "stp"; walk_at "wx"
    exact ⟨d, book, s, rfl, hd, h8, hb, hs, .same (by simpa using h)⟩
end G3

/-! R1: the laws' shared _law_srefused: which class a call is refused with -/
namespace G3
open PySem L2
local macro_rules | `(tactic| walk_at "wp") => `(tactic| simp only [wSs, wS, wE, wL, wO, wSq, wRet, wRetN, wAsg, wIf, wDrop, wFor, wPut, wNx, wArgs, wCons, wNil, wCall, wComp, wI, wB, wSeqT, wSeqL, wRng1, wRng2, wEnumL, wEnumT, wVar, wC, wBin, wUn, wNot, wAnd, wOr, wIte, wTest, wTrk, wSlc, wNoPart, wPart, fMt, List.getElem?_cons_succ, List.getElem?_cons_zero, tupOf, lstOf, gdOf, ex_eq, ex_eq', ex2_eq, ex2_eq', Bfn.f, Mth.f, compT, tgB, setAll, wipeD, wYes, List.map_cons, List.map_nil, List.set_cons_succ, List.set_cons_zero, List.length_cons, List.length_nil, Bop.f, Cop.f, Iop.f, fI2, fS2, fIx, fNeg, true_and, and_true, if_true, bodyEnds, R.fz_v, R.fz_tl, atI_0, atI_1, atI_2, atI_3, Option.some.injEq, DO.lst.injEq, decide_eq_true_eq, gup_same, gup_gup, or_false, ixN_s0, ixN_s1, ixN_s2, List.length_set, List.length_map, szl, Nat.reduceAdd, Nat.zero_add, Nat.reduceLeDiff, Nat.zero_le, Int.reduceLE, exists_eq', false_or, fAddT, fAddL, fSl, rolOf, Bool.not_true, Bool.not_false, Bool.false_eq_true, if_false, Bool.false_xor, Bool.xor_true, beq_self_eq_true, isiB_bb, isiB_ll, decide_true, isiB_tt, fIsN, isNon, wTry, wCallv, wRaise, setO, gonO, tryEnds, wMk, wMkAt, wAt, wRaiseAt, isKd, Mth.kd, eq_self, wDis, wDnK, wDnT, wDput, wPar, wRngD, wFld, wMeth, wNew, wSfld, wCh3, wPar3, wRevL, wDputM, wText, fInT, wIng, wSfld2, wDead, wLock, lckE, wLockE, wKeysL, fDIxL, fDmt, Dmt.f])
local macro_rules | `(tactic| walk_at "stp") => `(tactic| first | (rw [wHid_eq]; conv in (wSs _) => arg 1; whnf) | (conv in (wSs _) => arg 1; whnf))
local macro_rules | `(tactic| walk_at "wx") => `(tactic| simp only [wSs, wS, wE, wL, wO, wSq, wRet, wRetN, wAsg, wIf, wDrop, wFor, wPut, wNx, wArgs, wCons, wNil, wCall, wComp, wI, wB, wSeqT, wSeqL, wRng1, wRng2, wEnumL, wEnumT, wVar, wC, wBin, wUn, wNot, wAnd, wOr, wIte, wTest, wTrk, wSlc, wNoPart, wPart, fMt, List.getElem?_cons_succ, List.getElem?_cons_zero, tupOf, lstOf, gdOf, ex_eq, ex_eq', ex2_eq, ex2_eq', Bfn.f, Mth.f, compT, tgB, setAll, wipeD, wYes, List.map_cons, List.map_nil, List.set_cons_succ, List.set_cons_zero, List.length_cons, List.length_nil, Bop.f, Cop.f, Iop.f, fI2, fS2, fIx, fNeg, true_and, and_true, if_true, bodyEnds, R.fz_v, R.fz_tl, atI_0, atI_1, atI_2, atI_3, Option.some.injEq, DO.lst.injEq, decide_eq_true_eq, gup_same, gup_gup, or_false, ixN_s0, ixN_s1, ixN_s2, List.length_set, List.length_map, szl, Nat.reduceAdd, Nat.zero_add, Nat.reduceLeDiff, Nat.zero_le, Int.reduceLE, exists_eq', false_or, fAddT, fAddL, fSl, rolOf, Bool.not_true, Bool.not_false, Bool.false_eq_true, if_false, Bool.false_xor, Bool.xor_true, beq_self_eq_true, isiB_bb, isiB_ll, decide_true, isiB_tt, fIsN, isNon, wTry, wCallv, wRaise, setO, gonO, tryEnds, wMk, wMkAt, wAt, wRaiseAt, isKd, Mth.kd, eq_self, wDis, wDnK, wDnT, wDput, wPar, wRngD, wFld, wMeth, wNew, wSfld, wCh3, wPar3, wRevL, wDputM, wText, fInT, wIng, wSfld2, wDead, wLock, lckE, wLockE, wKeysL, fDIxL, fDmt, Dmt.f, eIn_tI, eIn_lI, eEq_tI, eEq_lI, eEq_tl, eEq_tl', eEq_bl, eEq_tN, eEq_lN, fIsE, Ufn.f, fSSet, fLSet, if_true, if_false, Bool.true_xor, Bool.xor_false, seqOf, fIxA, fSlA, fAddA, fInA, wSeqA, wEnumA, isKd, Mth.kd, fB2, okD_int, okD_bl, okDs_intsN, inD_ints, fRepL, fAddS, fIxS, eEq_int, wCh, fLRng, fRevT, fRow2, fTRng, fLSetT, fMaxD, wStp, fLz, wLockX, wDisE, Tfn.f, fDEq, fDInL, fDIxA])
def n_law_srefused : List Str := ["act", "caught", "e", "kinds", "words"]
def b_law_srefused_22 (tab : Tab) : Sl := .cons (.asg (.nm 4) (.lst (.cons (.cst (.str "cut")) (.cons (.cst (.str "ladder")) (.cons (.cst (.str "instead")) (.cons (.cst (.str "great")) (.cons (.cst (.str "many")) (.cons (.cst (.str "telling")) (.cons (.cst (.str "text")) (.cons (.cst (.str "row")) (.cons (.cst (.str "back")) (.nil)))))))))))) (.cons (.ret (.idx .l (.var 4) (.mth .index (.var 3) (.cons (.cst (.bl true)) (.nil))))) (.nil))
def b_law_srefused_15 (tab : Tab) : Sl := .cons (.asg (.nm 3) (.trk (.lst (.cons (.blf (.isE exN) (.cons (.var 1) (.cons (.glb "NoCut" (.gl "NoCut")) (.nil)))) (.cons (.blf (.isE exN) (.cons (.var 1) (.cons (.glb "NoLadder" (.gl "NoLadder")) (.nil)))) (.nil)))))) (.cons (.asg (.nm 3) (.trk (.bin .addL (.var 3) (.lst (.cons (.blf (.isE exN) (.cons (.var 1) (.cons (.glb "NoInstead" (.gl "NoInstead")) (.nil)))) (.cons (.blf (.isE exN) (.cons (.var 1) (.cons (.glb "TooGreat" (.gl "TooGreat")) (.nil)))) (.nil))))))) (.cons (.asg (.nm 3) (.trk (.bin .addL (.var 3) (.lst (.cons (.blf (.isE exN) (.cons (.var 1) (.cons (.glb "TooMany" (.gl "TooMany")) (.nil)))) (.cons (.blf (.isE exN) (.cons (.var 1) (.cons (.glb "NoTelling" (.gl "NoTelling")) (.nil)))) (.nil))))))) (.cons (.asg (.nm 3) (.trk (.bin .addL (.var 3) (.lst (.cons (.blf (.isE exN) (.cons (.var 1) (.cons (.glb "NoText" (.gl "NoText")) (.nil)))) (.cons (.blf (.isE exN) (.cons (.var 1) (.cons (.glb "NoRow" (.gl "NoRow")) (.nil)))) (.nil))))))) (.cons (.expr (.mth .append (.var 3) (.cons (.blf (.isE exN) (.cons (.var 1) (.cons (.glb "NoBack" (.gl "NoBack")) (.nil)))) (.nil)))) (.cons (.ifs (.or (.cmp .neI (.mth .count (.var 3) (.cons (.cst (.bl true)) (.nil))) (.cst (.int 1))) (.not (.blf (.isE exN) (.cons (.var 1) (.cons (.blt "ValueError" "ValueError") (.nil)))))) (.cons (.ret (.cst (.str "odd"))) (.nil)) (.nil)) ((b_law_srefused_22 tab)))))))
def b_law_srefused_13 (tab : Tab) : Sl := .cons (.ifs (.cmp .isN (.var 1) (.cst .non)) (.cons (.ret (.cst (.str ""))) (.nil)) (.nil)) ((b_law_srefused_15 tab))
def b_law_srefused_3 (tab : Tab) : Sl := .cons (.ifs (.cmp .eqI (.blf .len (.cons (.var 0) (.nil))) (.cst (.int 2))) (.cons (.expr (.callv tab (.idx .t (.var 0) (.cst (.int 0))) (.cons (.idx .t (.var 0) (.cst (.int 1))) (.nil)))) (.nil)) (.cons (.ifs (.cmp .eqI (.blf .len (.cons (.var 0) (.nil))) (.cst (.int 3))) (.cons (.expr (.callv tab (.idx .t (.var 0) (.cst (.int 0))) (.cons (.idx .t (.var 0) (.cst (.int 1))) (.cons (.idx .t (.var 0) (.cst (.int 2))) (.nil))))) (.nil)) (.cons (.ifs (.cmp .eqI (.blf .len (.cons (.var 0) (.nil))) (.cst (.int 4))) (.cons (.expr (.callv tab (.idx .t (.var 0) (.cst (.int 0))) (.cons (.idx .t (.var 0) (.cst (.int 1))) (.cons (.idx .t (.var 0) (.cst (.int 2))) (.cons (.idx .t (.var 0) (.cst (.int 3))) (.nil)))))) (.nil)) (.cons (.expr (.callv tab (.idx .t (.var 0) (.cst (.int 0))) (.cons (.idx .t (.var 0) (.cst (.int 1))) (.cons (.idx .t (.var 0) (.cst (.int 2))) (.cons (.idx .t (.var 0) (.cst (.int 3))) (.cons (.idx .t (.var 0) (.cst (.int 4))) (.nil))))))) (.nil))) (.nil))) (.nil))) (.nil)
def b_law_srefused_12 (tab : Tab) : Sl := .cons (.asg (.nm 1) (.var 2)) (.nil)
def b_law_srefused (tab : Tab) : Sl := .cons (.asg (.nm 1) (.cst .non)) (.cons (.try_ exN "SpareError" (some 2) ((b_law_srefused_3 tab)) ((b_law_srefused_12 tab))) ((b_law_srefused_13 tab)))
/-- the word of a class -/
def word (C : Str) : Str := if C = "NoCut" then "cut" else if C = "NoLadder" then "ladder" else if C = "NoInstead" then "instead" else if C = "TooGreat" then "great" else if C = "TooMany" then "many" else if C = "NoTelling" then "telling" else
  if C = "NoText" then "text" else if C = "NoRow" then "row" else "back"
def sp_law_srefused (tab : Tab) : GSp := fun ds g Q _ => ∃ (x : Str) (sp : GSp) (args : List D), ds = [.tup (.gl x :: args)] ∧ (x, sp) ∈ tab ∧ 1 ≤ args.length ∧ args.length ≤ 4 ∧
  ∀ (Qc : QK) (Wc : XKD), (∀ r g', Q (.v (.str "")) g' → Qc r g') → (∀ e g', e.C ∈ exN → Q (.v (.str (word e.C))) g' → Wc e g') → sp args g Qc Wc
theorem w_law_srefused (tab : Tab) : ∀ ds g Q W, sp_law_srefused tab ds g Q W → wSs (b_law_srefused tab) (bodyEnds g Q W) (startD 5 ds) g := by
  rintro ds g Q W ⟨x, sp, args, rfl, hm, h1, h4, h⟩
  change wSs _ _ [some _, none, none, none, none] g
  have none_ : ∀ (act : D) (g' : GH), Q (.v (.str "")) g' → wSs (b_law_srefused_13 tab) (bodyEnds g Q W) [some act, some .non, none, none, none] g' := by
    intro act g' q
    rw [b_law_srefused_13]
    walk_at "wp"
    exact .same q
  have some_ : ∀ (act : D) (C : Str) (n : Option Int) (g' : GH), C ∈ exN → Q (.v (.str (word C))) g' → wSs (b_law_srefused_13 tab) (bodyEnds g Q W) [some act, some (.exc C n), none, none, none] g' := by
    intro act C n g' hC q
    rw [b_law_srefused_13]
    walk_at "wp"
    rw [b_law_srefused_15]
    simp only [fIsE, wSs, wS, wE, wL, wO, wSq, wRet, wRetN, wAsg, wIf, wDrop, wFor, wPut, wNx, wArgs, wCons, wNil, wCall, wComp, wI, wB, wSeqT, wSeqL, wRng1, wRng2, wEnumL, wEnumT, wVar, wC, wBin, wUn, wNot, wAnd, wOr, wIte, wTest, wTrk, wSlc, wNoPart, wPart, fMt, List.getElem?_cons_succ, List.getElem?_cons_zero, tupOf, lstOf, gdOf, ex_eq, ex_eq', ex2_eq, ex2_eq', Bfn.f, Mth.f, compT, tgB, setAll, wipeD, wYes, List.map_cons, List.map_nil, List.set_cons_succ, List.set_cons_zero, List.length_cons, List.length_nil, Bop.f, Cop.f, Iop.f, fI2, fS2, fIx, fNeg, true_and, and_true, if_true, bodyEnds, R.fz_v, R.fz_tl, atI_0, atI_1, atI_2, atI_3, Option.some.injEq, DO.lst.injEq, decide_eq_true_eq, gup_same, gup_gup, or_false, ixN_s0, ixN_s1, ixN_s2, List.length_set, List.length_map, szl, Nat.reduceAdd, Nat.zero_add, Nat.reduceLeDiff, Nat.zero_le, Int.reduceLE, exists_eq', false_or, fAddT, fAddL, fSl, rolOf, Bool.not_true, Bool.not_false, Bool.false_eq_true, if_false, Bool.false_xor, Bool.xor_true, beq_self_eq_true, isiB_bb, isiB_ll, decide_true, isiB_tt, fIsN, isNon, wTry, wCallv, wRaise, setO, gonO, tryEnds, wMk, wMkAt, wAt, wRaiseAt, isKd, Mth.kd, eq_self, wDis, wDnK, wDnT, wDput, wPar, wRngD, wFld, wMeth, wNew, wSfld, wCh3, wPar3, wRevL, wDputM, wText, fInT, wIng, wSfld2, wDead, wLock, lckE, wLockE, wKeysL, fDIxL, fDmt, Dmt.f]
    refine ⟨hC, by decide, hC, by decide, fun p1 f1 => ⟨hC, by decide, hC, by decide, fun p2 f2 => ⟨hC, by decide, hC, by decide, by simp, fun p3 f3 => ⟨hC, by decide, hC, by decide, by simp, fun p4 f4 => ⟨hC, by decide, by simp, rfl, rfl, ?_⟩⟩⟩⟩⟩
    have hC' := hC
    simp only [exN, List.mem_cons, List.not_mem_nil, or_false] at hC'
    rcases hC' with rfl | rfl | rfl | rfl | rfl | rfl | rfl | rfl | rfl
    all_goals
      rw [if_neg (by decide +kernel)]
      refine ⟨hC, ?_⟩
      rw [b_law_srefused_22]
      walk_at "wp"
    · exact ⟨0, by decide +kernel, rfl, by decide +kernel, .str "cut", rfl, .less (gle_up (gle_up (gle_up (gle_up gle_rfl f1) f2) f3) f4) (by rw [show word _ = "cut" by decide +kernel] at q; exact q)⟩
    · exact ⟨1, by decide +kernel, rfl, by decide +kernel, .str "ladder", rfl, .less (gle_up (gle_up (gle_up (gle_up gle_rfl f1) f2) f3) f4) (by rw [show word _ = "ladder" by decide +kernel] at q; exact q)⟩
    · exact ⟨2, by decide +kernel, rfl, by decide +kernel, .str "instead", rfl, .less (gle_up (gle_up (gle_up (gle_up gle_rfl f1) f2) f3) f4) (by rw [show word _ = "instead" by decide +kernel] at q; exact q)⟩
    · exact ⟨3, by decide +kernel, rfl, by decide +kernel, .str "great", rfl, .less (gle_up (gle_up (gle_up (gle_up gle_rfl f1) f2) f3) f4) (by rw [show word _ = "great" by decide +kernel] at q; exact q)⟩
    · exact ⟨4, by decide +kernel, rfl, by decide +kernel, .str "many", rfl, .less (gle_up (gle_up (gle_up (gle_up gle_rfl f1) f2) f3) f4) (by rw [show word _ = "many" by decide +kernel] at q; exact q)⟩
    · exact ⟨5, by decide +kernel, rfl, by decide +kernel, .str "telling", rfl, .less (gle_up (gle_up (gle_up (gle_up gle_rfl f1) f2) f3) f4) (by rw [show word _ = "telling" by decide +kernel] at q; exact q)⟩
    · exact ⟨6, by decide +kernel, rfl, by decide +kernel, .str "text", rfl, .less (gle_up (gle_up (gle_up (gle_up gle_rfl f1) f2) f3) f4) (by rw [show word _ = "text" by decide +kernel] at q; exact q)⟩
    · exact ⟨7, by decide +kernel, rfl, by decide +kernel, .str "row", rfl, .less (gle_up (gle_up (gle_up (gle_up gle_rfl f1) f2) f3) f4) (by rw [show word _ = "row" by decide +kernel] at q; exact q)⟩
    · exact ⟨8, by decide +kernel, rfl, by decide +kernel, .str "back", rfl, .less (gle_up (gle_up (gle_up (gle_up gle_rfl f1) f2) f3) f4) (by rw [show word _ = "back" by decide +kernel] at q; exact q)⟩
  have body : ∀ (D0 : DEnds), (∀ g', Q (.v (.str "")) g' → D0.nx [some (.tup (.gl x :: args)), some .non, none, none, none] g') → (∀ C n g', C ∈ exN → Q (.v (.str (word C))) g' → D0.ex ⟨C, n⟩ [some (.tup (.gl x :: args)), some .non, none, none, none] g') →
      wSs (b_law_srefused_3 tab) D0 [some (.tup (.gl x :: args)), some .non, none, none, none] g := by
    intro D0 k1 k2
    rw [b_law_srefused_3]
    match args, h1, h4, h with
    | [a], _, _, h =>
      walk_at "wp"
      rw [if_pos (by decide)]
      exact ⟨sp, hm, h _ _ (fun r g' q => k1 g' q) fun e g' hC q => k2 e.C e.n g' hC q⟩
    | [a, b], _, _, h =>
      walk_at "wp"
      rw [if_neg (by decide), if_pos (by decide)]
      exact ⟨sp, hm, h _ _ (fun r g' q => k1 g' q) fun e g' hC q => k2 e.C e.n g' hC q⟩
    | [a, b, c], _, _, h =>
      walk_at "wp"
      rw [if_neg (by decide), if_neg (by decide), if_pos (by decide)]
      exact ⟨sp, hm, h _ _ (fun r g' q => k1 g' q) fun e g' hC q => k2 e.C e.n g' hC q⟩
    | [a, b, c, d], _, _, h =>
      walk_at "wp"
      rw [if_neg (by decide), if_neg (by decide), if_neg (by decide)]
      exact ⟨sp, hm, _, rfl, h _ _ (fun r g' q => k1 g' q) fun e g' hC q => k2 e.C e.n g' hC q⟩
  rw [b_law_srefused]
  walk_at "wp"
  refine body _ (fun g' q => none_ (.tup (.gl x :: args)) _ q) fun C n g' hC q => ⟨hC, fun _ => ?_, fun e => ?_⟩
  · rw [b_law_srefused_12]
    walk_at "wp"
    exact some_ (.tup (.gl x :: args)) C n g' hC q
  · simp [exSub, upN] at e
end G3

/-! S1: on what a row stands: the program and the laws' own look -/
namespace G3
open PySem L2
local macro_rules | `(tactic| walk_at "wp") => `(tactic| simp only [wSs, wS, wE, wL, wO, wSq, wRet, wRetN, wAsg, wIf, wDrop, wFor, wPut, wNx, wArgs, wCons, wNil, wCall, wComp, wI, wB, wSeqT, wSeqL, wRng1, wRng2, wEnumL, wEnumT, wVar, wC, wBin, wUn, wNot, wAnd, wOr, wIte, wTest, wTrk, wSlc, wNoPart, wPart, fMt, List.getElem?_cons_succ, List.getElem?_cons_zero, tupOf, lstOf, gdOf, ex_eq, ex_eq', ex2_eq, ex2_eq', Bfn.f, Mth.f, compT, tgB, setAll, wipeD, wYes, List.map_cons, List.map_nil, List.set_cons_succ, List.set_cons_zero, List.length_cons, List.length_nil, Bop.f, Cop.f, Iop.f, fI2, fS2, fIx, fNeg, true_and, and_true, if_true, bodyEnds, R.fz_v, R.fz_tl, atI_0, atI_1, atI_2, atI_3, Option.some.injEq, DO.lst.injEq, decide_eq_true_eq, gup_same, gup_gup, or_false, ixN_s0, ixN_s1, ixN_s2, List.length_set, List.length_map, szl, Nat.reduceAdd, Nat.zero_add, Nat.reduceLeDiff, Nat.zero_le, Int.reduceLE, exists_eq', false_or, fAddT, fAddL, fSl, rolOf, Bool.not_true, Bool.not_false, Bool.false_eq_true, if_false, Bool.false_xor, Bool.xor_true, beq_self_eq_true, isiB_bb, isiB_ll, decide_true, isiB_tt, fIsN, isNon, wTry, wCallv, wRaise, setO, gonO, tryEnds, wMk, wMkAt, wAt, wRaiseAt, isKd, Mth.kd, eq_self, wDis, wDnK, wDnT, wDput, wPar, wRngD, wFld, wMeth, wNew, wSfld, wCh3, wPar3, wRevL, wDputM, wText, fInT, wIng, wSfld2, wDead, wLock, lckE, wLockE, wKeysL, fDIxL, fDmt, Dmt.f])
local macro_rules | `(tactic| walk_at "stp") => `(tactic| first | (rw [wHid_eq]; conv in (wSs _) => arg 1; whnf) | (conv in (wSs _) => arg 1; whnf))
local macro_rules | `(tactic| walk_at "wx") => `(tactic| simp only [wSs, wS, wE, wL, wO, wSq, wRet, wRetN, wAsg, wIf, wDrop, wFor, wPut, wNx, wArgs, wCons, wNil, wCall, wComp, wI, wB, wSeqT, wSeqL, wRng1, wRng2, wEnumL, wEnumT, wVar, wC, wBin, wUn, wNot, wAnd, wOr, wIte, wTest, wTrk, wSlc, wNoPart, wPart, fMt, List.getElem?_cons_succ, List.getElem?_cons_zero, tupOf, lstOf, gdOf, ex_eq, ex_eq', ex2_eq, ex2_eq', Bfn.f, Mth.f, compT, tgB, setAll, wipeD, wYes, List.map_cons, List.map_nil, List.set_cons_succ, List.set_cons_zero, List.length_cons, List.length_nil, Bop.f, Cop.f, Iop.f, fI2, fS2, fIx, fNeg, true_and, and_true, if_true, bodyEnds, R.fz_v, R.fz_tl, atI_0, atI_1, atI_2, atI_3, Option.some.injEq, DO.lst.injEq, decide_eq_true_eq, gup_same, gup_gup, or_false, ixN_s0, ixN_s1, ixN_s2, List.length_set, List.length_map, szl, Nat.reduceAdd, Nat.zero_add, Nat.reduceLeDiff, Nat.zero_le, Int.reduceLE, exists_eq', false_or, fAddT, fAddL, fSl, rolOf, Bool.not_true, Bool.not_false, Bool.false_eq_true, if_false, Bool.false_xor, Bool.xor_true, beq_self_eq_true, isiB_bb, isiB_ll, decide_true, isiB_tt, fIsN, isNon, wTry, wCallv, wRaise, setO, gonO, tryEnds, wMk, wMkAt, wAt, wRaiseAt, isKd, Mth.kd, eq_self, wDis, wDnK, wDnT, wDput, wPar, wRngD, wFld, wMeth, wNew, wSfld, wCh3, wPar3, wRevL, wDputM, wText, fInT, wIng, wSfld2, wDead, wLock, lckE, wLockE, wKeysL, fDIxL, fDmt, Dmt.f, eIn_tI, eIn_lI, eEq_tI, eEq_lI, eEq_tl, eEq_tl', eEq_bl, eEq_tN, eEq_lN, fIsE, Ufn.f, fSSet, fLSet, if_true, if_false, Bool.true_xor, Bool.xor_false, seqOf, fIxA, fSlA, fAddA, fInA, wSeqA, wEnumA, isKd, Mth.kd, fB2, okD_int, okD_bl, okDs_intsN, inD_ints, fRepL, fAddS, fIxS, eEq_int, wCh, fLRng, fRevT, fRow2, fTRng, fLSetT, fMaxD, wStp, fLz, wLockX, wDisE, Tfn.f, fDEq, fDInL, fDIxA])
def addI (ks : List Int) (i : Int) : List Int := if i ∈ ks then ks else ks ++ [i]
end G3

/-! Y1: the fewest claims -/
namespace G3
open PySem L2
local macro_rules | `(tactic| walk_at "wp") => `(tactic| simp only [wSs, wS, wE, wL, wO, wSq, wRet, wRetN, wAsg, wIf, wDrop, wFor, wPut, wNx, wArgs, wCons, wNil, wCall, wComp, wI, wB, wSeqT, wSeqL, wRng1, wRng2, wEnumL, wEnumT, wVar, wC, wBin, wUn, wNot, wAnd, wOr, wIte, wTest, wTrk, wSlc, wNoPart, wPart, fMt, List.getElem?_cons_succ, List.getElem?_cons_zero, tupOf, lstOf, gdOf, ex_eq, ex_eq', ex2_eq, ex2_eq', Bfn.f, Mth.f, compT, tgB, setAll, wipeD, wYes, List.map_cons, List.map_nil, List.set_cons_succ, List.set_cons_zero, List.length_cons, List.length_nil, Bop.f, Cop.f, Iop.f, fI2, fS2, fIx, fNeg, true_and, and_true, if_true, bodyEnds, R.fz_v, R.fz_tl, atI_0, atI_1, atI_2, atI_3, Option.some.injEq, DO.lst.injEq, decide_eq_true_eq, gup_same, gup_gup, or_false, ixN_s0, ixN_s1, ixN_s2, List.length_set, List.length_map, szl, Nat.reduceAdd, Nat.zero_add, Nat.reduceLeDiff, Nat.zero_le, Int.reduceLE, exists_eq', false_or, fAddT, fAddL, fSl, rolOf, Bool.not_true, Bool.not_false, Bool.false_eq_true, if_false, Bool.false_xor, Bool.xor_true, beq_self_eq_true, isiB_bb, isiB_ll, decide_true, isiB_tt, fIsN, isNon, wTry, wCallv, wRaise, setO, gonO, tryEnds, wMk, wMkAt, wAt, wRaiseAt, isKd, Mth.kd, eq_self, wDis, wDnK, wDnT, wDput, wPar, wRngD, wFld, wMeth, wNew, wSfld, wCh3, wPar3, wRevL, wDputM, wText, fInT, wIng, wSfld2, wDead, wLock, lckE, wLockE, wKeysL, fDIxL, fDmt, Dmt.f])
local macro_rules | `(tactic| walk_at "stp") => `(tactic| first | (rw [wHid_eq]; conv in (wSs _) => arg 1; whnf) | (conv in (wSs _) => arg 1; whnf))
local macro_rules | `(tactic| walk_at "wx") => `(tactic| simp only [wSs, wS, wE, wL, wO, wSq, wRet, wRetN, wAsg, wIf, wDrop, wFor, wPut, wNx, wArgs, wCons, wNil, wCall, wComp, wI, wB, wSeqT, wSeqL, wRng1, wRng2, wEnumL, wEnumT, wVar, wC, wBin, wUn, wNot, wAnd, wOr, wIte, wTest, wTrk, wSlc, wNoPart, wPart, fMt, List.getElem?_cons_succ, List.getElem?_cons_zero, tupOf, lstOf, gdOf, ex_eq, ex_eq', ex2_eq, ex2_eq', Bfn.f, Mth.f, compT, tgB, setAll, wipeD, wYes, List.map_cons, List.map_nil, List.set_cons_succ, List.set_cons_zero, List.length_cons, List.length_nil, Bop.f, Cop.f, Iop.f, fI2, fS2, fIx, fNeg, true_and, and_true, if_true, bodyEnds, R.fz_v, R.fz_tl, atI_0, atI_1, atI_2, atI_3, Option.some.injEq, DO.lst.injEq, decide_eq_true_eq, gup_same, gup_gup, or_false, ixN_s0, ixN_s1, ixN_s2, List.length_set, List.length_map, szl, Nat.reduceAdd, Nat.zero_add, Nat.reduceLeDiff, Nat.zero_le, Int.reduceLE, exists_eq', false_or, fAddT, fAddL, fSl, rolOf, Bool.not_true, Bool.not_false, Bool.false_eq_true, if_false, Bool.false_xor, Bool.xor_true, beq_self_eq_true, isiB_bb, isiB_ll, decide_true, isiB_tt, fIsN, isNon, wTry, wCallv, wRaise, setO, gonO, tryEnds, wMk, wMkAt, wAt, wRaiseAt, isKd, Mth.kd, eq_self, wDis, wDnK, wDnT, wDput, wPar, wRngD, wFld, wMeth, wNew, wSfld, wCh3, wPar3, wRevL, wDputM, wText, fInT, wIng, wSfld2, wDead, wLock, lckE, wLockE, wKeysL, fDIxL, fDmt, Dmt.f, eIn_tI, eIn_lI, eEq_tI, eEq_lI, eEq_tl, eEq_tl', eEq_bl, eEq_tN, eEq_lN, fIsE, Ufn.f, fSSet, fLSet, if_true, if_false, Bool.true_xor, Bool.xor_false, seqOf, fIxA, fSlA, fAddA, fInA, wSeqA, wEnumA, isKd, Mth.kd, fB2, okD_int, okD_bl, okDs_intsN, inD_ints, fRepL, fAddS, fIxS, eEq_int, wCh, fLRng, fRevT, fRow2, fTRng, fLSetT, fMaxD, wStp, fLz, wLockX, wDisE, Tfn.f, fDEq, fDInL, fDIxA])
def n_need_few : List Str := ["book"]
def b_need_few : Sl := .cons (.ifs (.cmp .gtI (.blf .len (.cons (.var 0) (.nil))) (.glb "MOST_LOOKED" (.int 10))) (.cons (.raise "TooMany") (.nil)) (.nil)) (.nil)
def sp_need_few : GSp := fun ds g Q W => ∃ (book : List (List Int)), ds = [cls book] ∧ (book.length ≤ 10 → Q (.v .non) g) ∧ (10 < book.length → W ⟨"TooMany", none⟩ g)
theorem w_need_few : ∀ ds g Q W, sp_need_few ds g Q W → wSs b_need_few (bodyEnds g Q W) (startD 1 ds) g := by
  rintro ds g Q W ⟨book, rfl, h1, h2⟩
  change wSs _ _ [some _] g
  walk_at "stp"; walk_at "wx"
  split
  · exact ⟨g, gle_rfl, h2 (by omega)⟩
  · exact .same (h1 (by omega))
/-- the numbers from a on -/
def fromN (a : Int) (count : Nat) : List Int := (List.range ((count : Int) - a).toNat).map fun (i : Nat) => a + (i : Int)
def startT (t : List Int) : Int := match t.getLast? with
  | none => 0
  | some z => z + 1
def stepT (count : Nat) (ts : List (List Int)) : List (List Int) := (ts.map fun t => (fromN (startT t) count).map fun z => t ++ [z]).flatten
def tupsF (count : Nat) : Nat → List (List Int)
  | 0 => [[]]
  | n + 1 => stepT count (tupsF count n)
theorem mem_fromN {a : Int} {count : Nat} {z : Int} : z ∈ fromN a count ↔ a ≤ z ∧ z < count := by
  unfold fromN
  rw [List.mem_map]
  constructor
  · rintro ⟨i, hi, rfl⟩
    have := List.mem_range.mp hi; omega
  · rintro ⟨h0, h1⟩
    exact ⟨(z - a).toNat, List.mem_range.mpr (by omega), by omega⟩
theorem mem_stepT {count : Nat} {ts : List (List Int)} {u : List Int} : u ∈ stepT count ts ↔ ∃ t ∈ ts, ∃ z, startT t ≤ z ∧ z < count ∧ u = t ++ [z] := by
  unfold stepT
  rw [List.mem_flatten]
  constructor
  · rintro ⟨l, hl, hu⟩
    obtain ⟨t, ht, rfl⟩ := List.mem_map.mp hl
    obtain ⟨z, hz, rfl⟩ := List.mem_map.mp hu
    exact ⟨t, ht, z, (mem_fromN.mp hz).1, (mem_fromN.mp hz).2, rfl⟩
  · rintro ⟨t, ht, z, h1, h2, rfl⟩
    exact ⟨_, List.mem_map.mpr ⟨t, ht, rfl⟩, List.mem_map.mpr ⟨z, mem_fromN.mpr ⟨h1, h2⟩, rfl⟩⟩
/-- rising numbers below count -/
def RisT (count : Nat) (t : List Int) : Prop := t.Pairwise (· < ·) ∧ ∀ z ∈ t, 0 ≤ z ∧ z < count
theorem startT_snoc {t : List Int} {z : Int} : startT (t ++ [z]) = z + 1 := by unfold startT; rw [List.getLast?_concat]
theorem startT_le {t : List Int} {count : Nat} (h : RisT count t) {z : Int} : startT t ≤ z ↔ 0 ≤ z ∧ ∀ y ∈ t, y < z := by
  rcases List.eq_nil_or_concat t with rfl | ⟨u, y, e⟩
  · show (0 : Int) ≤ z ↔ _
    simp
  · rw [List.concat_eq_append] at e
    subst e
    rw [startT_snoc]
    have h1 := (List.pairwise_append.mp h.1).2.2
    constructor
    · intro hz
      refine ⟨by have := (h.2 y (by simp)).1; omega, fun x hx => ?_⟩
      rcases List.mem_append.mp hx with hx | hx
      · have := h1 x hx y (by simp); omega
      · rw [List.mem_singleton.mp hx]; omega
    · rintro ⟨-, h⟩
      have := h y (by simp); omega
theorem mem_tups {count : Nat} : ∀ {n : Nat} {t : List Int}, t ∈ tupsF count n ↔ t.length = n ∧ RisT count t
  | 0, t => by
    unfold tupsF
    rw [List.mem_singleton]
    constructor
    · rintro rfl; exact ⟨rfl, .nil, by simp⟩
    · rintro ⟨h, -⟩; exact List.length_eq_zero_iff.mp h
  | n + 1, u => by
    unfold tupsF
    rw [mem_stepT]
    constructor
    · rintro ⟨t, ht, z, h1, h2, rfl⟩
      obtain ⟨hl, hr⟩ := mem_tups.mp ht
      obtain ⟨h0, h3⟩ := (startT_le hr).mp h1
      refine ⟨by simp [hl], List.pairwise_append.mpr ⟨hr.1, List.pairwise_singleton _ _, fun x hx y hy => by rw [List.mem_singleton.mp hy]; exact h3 x hx⟩, fun x hx => ?_⟩
      rcases List.mem_append.mp hx with hx | hx
      · exact hr.2 x hx
      · rw [List.mem_singleton.mp hx]; exact ⟨h0, h2⟩
    · rintro ⟨hl, hr⟩
      rcases List.eq_nil_or_concat u with rfl | ⟨t, z, e⟩
      · cases hl
      · rw [List.concat_eq_append] at e
        subst e
        have hp := List.pairwise_append.mp hr.1
        have hrt : RisT count t := ⟨hp.1, fun x hx => hr.2 x (List.mem_append_left _ hx)⟩
        exact ⟨t, mem_tups.mpr ⟨by simpa using hl, hrt⟩, z, (startT_le hrt).mpr ⟨(hr.2 z (by simp)).1, fun y hy => hp.2.2 y hy z (by simp)⟩, (hr.2 z (by simp)).2, rfl⟩
theorem tups_nodup {count : Nat} : ∀ n : Nat, (tupsF count n).Nodup
  | 0 => by unfold tupsF; simp
  | n + 1 => by
    unfold tupsF stepT
    show List.Pairwise _ (List.flatten _)
    rw [List.pairwise_flatten]
    have fn : ∀ a : Int, (fromN a count).Nodup := fun a => List.Pairwise.map _ (fun i j h e => h (by have e : a + (i : Int) = a + (j : Int) := e; omega)) List.nodup_range
    refine ⟨fun l hl => ?_, List.pairwise_map.mpr ((tups_nodup n).imp_of_mem fun {t u} ht hu hne => ?_)⟩
    · obtain ⟨t, ht, rfl⟩ := List.mem_map.mp hl
      exact List.Pairwise.map _ (fun i j h e => h (by have e : t ++ [i] = t ++ [j] := e; simpa using e)) (fn _)
    · intro x hx y hy exy
      obtain ⟨z, hz, rfl⟩ := List.mem_map.mp hx
      obtain ⟨w, hw, e⟩ := List.mem_map.mp hy
      exact hne (List.append_inj' (exy.trans e.symm) rfl).1
theorem tups_len {count n : Nat} (h1 : count ≤ 10) (h2 : n ≤ 12) : (tupsF count n).length ≤ 252 := by
  have : ∀ c : Fin 11, ∀ m : Fin 13, (tupsF c m).length ≤ 252 := by decide +kernel
  exact this ⟨count, by omega⟩ ⟨n, by omega⟩
def tupD (t : List Int) : D := .tup (t.map .int)
theorem comp_from {st : D → GH → (Option R → GH → Prop) → Prop} {Qc : List D → GH → Prop} {a : Int} {count : Nat} {t : List Int} {g : GH} (h0 : 0 ≤ a) (hc : count ≤ 100000)
    (hst : ∀ z, ∀ P : Option R → GH → Prop, P (some (.v (tupD (t ++ [z])))) g → st (.int z) g P) (q : Qc (((fromN a count).map fun z => t ++ [z]).map tupD) g) : compW (fun _ => True) st (rngD a ((count : Int) - a).toNat) [] g Qc := by
  have e : rngD a ((count : Int) - a).toNat = (fromN a count).map D.int := by unfold rngD fromN; rw [List.map_map]; rfl
  rw [e]
  refine compW_m D.int (fun z => tupD (t ++ [z])) trivial (fun z _ P hP => hst z P hP) (by unfold fromN; rw [List.length_map, List.length_range, szl]; omega) ?_
  rw [List.map_map] at q
  exact q
def n_tuples_of : List Str := ["count", "many", "found", "turn", "longer", "some", "start", "number"]
def b_tuples_of_7 : Sl := .frz 4 (.cons (.asg (.nm 2) (.var 4)) (.nil))
def b_tuples_of_5 : Sl := .cons (.asg (.nm 6) (.ite (.cmp .eqD (.var 5) (.tup (.nil))) (.cst (.int 0)) (.bin .addI (.idx .t (.var 5) (.neg (.cst (.int 1)))) (.cst (.int 1))))) (.cons (.expr (.mth .extend (.var 4) (.cons (.comp [("number", 7)] (.rng2 (.cons (.var 6) (.cons (.var 0) (.nil)))) (.nm 7) (.no) (.bin .addT (.var 5) (.tup (.cons (.var 7) (.nil))))) (.nil)))) (.nil))
def b_tuples_of_3 : Sl := .cons (.asg (.nm 4) (.trk (.lst (.nil)))) (.cons (.for_ (.seqL (.var 2)) (.nm 5) (.part b_tuples_of_5)) (.part b_tuples_of_7))
def b_tuples_of : Sl := .cons (.asg (.nm 2) (.lst (.cons (.tup (.nil)) (.nil)))) (.cons (.for_ (.rng1 (.cons (.var 1) (.nil))) (.nm 3) (.part b_tuples_of_3)) (.cons (.ret (.var 2)) (.nil)))
def sp_tuples_of : GSp := fun ds g Q _ => ∃ (count many : Nat), ds = [.int (count : Int), .int (many : Int)] ∧ count ≤ 10 ∧ many ≤ 11 ∧ Q (.v (.lst ((tupsF count many).map tupD))) g
theorem w_tuples_of : ∀ ds g Q W, sp_tuples_of ds g Q W → wSs b_tuples_of (bodyEnds g Q W) (startD 8 ds) g := by
  rintro ds g Q W ⟨count, many, rfl, hc, hm, h⟩
  change wSs _ _ [some _, some _, none, none, none, none, none, none] g
  walk_at "stp"; walk_at "wx"
  refine ⟨by omega, by omega, ?_⟩
  rw [Int.toNat_natCast]
  refine forW_rng (fun k ρ g' => ∃ x3 x4 x5 x6 x7, g' = g ∧ ρ = [some (.int (count : Int)), some (.int (many : Int)), some (.lst ((tupsF count k).map tupD)), x3, x4, x5, x6, x7]) ⟨none, none, none, none, none, rfl, rfl⟩ ?_ ?_
  · rintro i hi ρ g' ⟨x3, x4, x5, x6, x7, rfl, rfl⟩ N hN
    walk_at "wx"
    walk_at "stp"; walk_at "wx"
    intro p hp
    have hle := fun (t : List Int) (ht : t ∈ tupsF count i) => mem_tups.mp ht
    refine forW_map tupD (fun j ρ g2 => ∃ x5 x6 x7, g2 = gup g' p (.lst ((stepT count ((tupsF count i).take j)).map tupD)) ∧
      ρ = [some (.int (count : Int)), some (.int (many : Int)), some (.lst ((tupsF count i).map tupD)), some (.int (i : Int)), some (.ref p), x5, x6, x7]) ⟨_, _, _, by rw [List.take_zero]; rfl, rfl⟩ (fun _ _ _ _ => trivial) ?_ ?_
    · rintro j t hj ρ g2 ⟨x5, x6, x7, rfl, rfl⟩ N2 hN2
      obtain ⟨tl, tr⟩ := hle t (List.mem_of_getElem? hj)
      have hst : (stepT count ((tupsF count i).take (j + 1))) = stepT count ((tupsF count i).take j) ++ (fromN (startT t) count).map fun z => t ++ [z] := by
        rw [List.take_succ, hj]; unfold stepT; rw [List.map_append, List.flatten_append]; simp
      have l1 := tups_len hc (n := i) (by omega)
      have l2 : (stepT count ((tupsF count i).take j)).length ≤ 100000 := by
        have h1 := tups_len hc (n := i + 1) (by omega)
        unfold tupsF at h1
        have h2 : (stepT count ((tupsF count i).take j)).length ≤ (stepT count (tupsF count i)).length := by
          conv => rhs; rw [← List.take_append_drop j (tupsF count i)]
          unfold stepT
          rw [List.map_append, List.flatten_append, List.length_append]
          omega
        omega
      have hst0 := ((startT_le tr).mp (Int.le_refl _)).1
      have hrng : ∀ z ∈ t, 0 ≤ z ∧ z < count := tr.2
      unfold tupD
      walk_at "wx"
      walk_at "stp"; walk_at "wx"
      have fin : ∀ g3 : GH, g3 = gup g' p (DO.lst (List.map (fun t => D.tup (List.map D.int t)) (stepT count (List.take j (tupsF count i))))) → ∀ a : Int, ∃ xs ys_1, g3 p = some (DO.lst xs) ∧ ys_1 = List.map tupD (List.map (fun z => t ++ [z]) (fromN (startT t) count)) ∧ xs.length + ys_1.length ≤ 16777216 ∧
          N2 [some (D.int count), some (D.int many), some (D.lst (List.map (fun t => D.tup (List.map D.int t)) (tupsF count i))), some (D.int i), some (D.ref p), some (D.tup (List.map D.int t)), some (D.int a), x7] (gup g3 p (DO.lst (xs ++ ys_1))) := by
        rintro g3 rfl a
        refine ⟨_, _, gup_same, rfl, ?_, ?_⟩
        · rw [List.length_map, List.length_map, List.length_map]
          unfold fromN
          rw [List.length_map, List.length_range]
          omega
        · refine hN2 _ _ ⟨_, _, _, ?_, rfl⟩
          rw [gup_gup, hst, List.map_append]; rfl
      by_cases ht : t = []
      · rw [if_pos (by rw [ht]; rfl)]
        have es : (0 : Int) = startT t := by rw [ht]; rfl
        refine ⟨⟨by decide, by decide, by omega, by omega⟩, ?_⟩
        refine comp_from (t := t) (by decide) (by omega) (fun z P hP => ?_) ?_
        · walk_at "wx"
          refine ⟨by rw [tl]; omega, ?_⟩
          unfold tupD at hP
          rw [List.map_append] at hP
          exact hP
        · have := fin _ rfl 0
          rw [← es] at this
          exact this
      · rw [if_neg (by simpa using ht)]
        obtain ⟨y, hy, ey, ea⟩ := atI_map_last D.int (xs := t) (by cases t with | nil => exact absurd rfl ht | cons _ _ => simp)
        have es : y + 1 = startT t := by
          unfold startT
          rw [List.getLast?_eq_getElem?, ey]
        have hy2 := hrng y hy
        refine ⟨_, ea, ?_⟩
        walk_at "wx"
        refine ⟨⟨by omega, by omega, by omega, by omega⟩, ?_⟩
        refine comp_from (t := t) (by omega) (by omega) (fun z P hP => ?_) ?_
        · walk_at "wx"
          refine ⟨by rw [tl]; omega, ?_⟩
          unfold tupD at hP
          rw [List.map_append] at hP
          exact hP
        · have := fin _ rfl (y + 1)
          rw [← es] at this
          exact this
    · rintro ρ g2 ⟨x5, x6, x7, rfl, rfl⟩
      rw [List.take_length]
      walk_at "stp"; walk_at "wx"
      refine ⟨_, g', gup_same, gle_up gle_rfl hp, hp, ?_⟩
      change wSq _ _ _ [_, _, _, _, some (.lst ((stepT count (tupsF count i)).map tupD)), _, _, _] _
      walk_at "wx"
      exact hN _ _ ⟨_, _, _, _, _, rfl, rfl⟩
  · rintro ρ g' ⟨x3, x4, x5, x6, x7, rfl, rfl⟩
    walk_at "wx"
    exact .same h
theorem tK_injY {a b : List Int} (h : tK a = tK b) : a = b := by
  unfold tK at h
  induction a generalizing b with
  | nil => cases b with
    | nil => rfl
    | cons y b => cases h
  | cons x a ih => cases b with
    | nil => cases h
    | cons y b =>
      rw [List.map_cons, List.map_cons] at h
      injection h with h1 h2
      rw [Sum.inl.inj h1, ih h2]
theorem rngI_ris {n : Nat} : rngI n ∈ tupsF n n := mem_tups.mpr ⟨rngI_len n, by
  refine ⟨?_, fun z hz => rngI_mem.mp hz⟩
  unfold rngI
  exact List.Pairwise.map _ (fun i j h => by show (0 + (i : Int)) < 0 + (j : Int); omega) List.pairwise_lt_range⟩
/-- what a table tells -/
def lkS (ss : List (List Int × List Bool)) (t : List Int) : Option (List Bool) := (ss.find? fun p => decide (p.1 = t)).map (·.2)
def tabS (ss : List (List Int × List Bool)) : List (List Key × D) := ss.map fun p => (tK p.1, bls p.2)
theorem look_tabS {ss : List (List Int × List Bool)} {t : List Int} : lookD (tabS ss) (tK t) = (lkS ss t).map bls := by
  unfold lookD tabS lkS
  induction ss with
  | nil => rfl
  | cons p ss ih =>
    rw [List.map_cons, List.find?_cons, List.find?_cons]
    by_cases e : p.1 = t
    · rw [decide_eq_true e, decide_eq_true (show tK p.1 = tK t by rw [e])]; rfl
    · rw [decide_eq_false e, decide_eq_false (show ¬ tK p.1 = tK t from fun h => e (tK_injY h))]; exact ih
def shnB (book : List (List Int)) (claim : List Int) (ss : List (List Int × List Bool)) (t : List Int) : Bool := match lkS ss t with
  | some s => !holdsB claim s && (failingL (thoseL book t) s == [])
  | none => false
def n_shows_needed : List Str := ["book", "claim", "many", "table", "numbers"]
def b_shows_needed_5 : Sl := .cons (.ifs (.cmp .neD (.call "failing" sp_failing (.cons (.call "those" sp_those (.cons (.var 0) (.cons (.var 4) (.nil)))) (.cons (.idx .d (.var 3) (.var 4)) (.nil)))) (.lst (.nil))) (.cons (.ret (.cst (.bl false))) (.nil)) (.nil)) (.nil)
def b_shows_needed_3 : Sl := .cons (.ifs (.or (.cmp .ninK (.var 4) (.var 3)) (.call "holds" sp_holds (.cons (.var 1) (.cons (.idx .d (.var 3) (.var 4)) (.nil))))) (.cons (.ret (.cst (.bl false))) (.nil)) (.nil)) (.part b_shows_needed_5)
def b_shows_needed_2 : Sl := .cons (.for_ (.seqL (.call "tuples_of" sp_tuples_of (.cons (.blf .len (.cons (.var 0) (.nil))) (.cons (.bin .subI (.var 2) (.cst (.int 1))) (.nil))))) (.nm 4) (.part b_shows_needed_3)) (.cons (.ret (.cst (.bl true))) (.nil))
def b_shows_needed : Sl := .cons (.expr (.call "need_few" sp_need_few (.cons (.var 0) (.nil)))) (.part b_shows_needed_2)
def sp_shows_needed : GSp := fun ds g Q W => ∃ (book : List (List Int)) (claim : List Int) (many : Nat) (p : Addr) (ss : List (List Int × List Bool)), ds = [cls book, cl claim, .int (many : Int), .ref p] ∧ g p = some (.dt (tabS ss)) ∧ (∀ e ∈ ss, e.2.length = 8) ∧ 1 ≤ many ∧ many ≤ 12 ∧ (∀ c ∈ book, Cl8 c) ∧ Cl8 claim ∧
  (10 < book.length → W ⟨"TooMany", none⟩ g) ∧ (book.length ≤ 10 → Q (.v (.bl ((tupsF book.length (many - 1)).all (shnB book claim ss)))) g)
theorem w_shows_needed : ∀ ds g Q W, sp_shows_needed ds g Q W → wSs b_shows_needed (bodyEnds g Q W) (startD 5 ds) g := by
  rintro ds g Q W ⟨book, claim, many, p, ss, rfl, hp, h8, h1, h2, hb, hc, hm, hq⟩
  change wSs _ _ [some _, some _, some _, some _, none] g
  walk_at "stp"; walk_at "wx"
  refine ⟨book, rfl, fun hl => ?_, fun hl => ⟨g, gle_rfl, hm hl⟩⟩
  show wHid (wSs b_shows_needed_2) _ _ _
  walk_at "stp"; walk_at "wx"
  refine ⟨book.length, many - 1, by rw [show ((many : Int) - 1) = ((many - 1 : Nat) : Int) by omega], hl, by omega, ?_⟩
  walk_at "wx"
  refine forW_map tupD (fun j ρ g2 => g2 = g ∧ (((tupsF book.length (many - 1)).take j).all (shnB book claim ss)) = true ∧ ∃ x4, ρ = [some (cls book), some (cl claim), some (.int (many : Int)), some (.ref p), x4]) ⟨rfl, by simp, _, rfl⟩ (fun _ _ _ _ => trivial) ?_ ?_
  · rintro j t hj ρ g2 ⟨rfl, hall, x4, rfl⟩ N hN
    have ht := List.mem_of_getElem? hj
    obtain ⟨tl, tr⟩ := mem_tups.mp ht
    have htk : (tupsF book.length (many - 1)).take (j + 1) = (tupsF book.length (many - 1)).take j ++ [t] := by rw [List.take_succ, hj]; rfl
    have no : shnB book claim ss t = false → RetOk g2 Q (R.v (D.bl false)) g2 := fun e => by
      have e2 : (tupsF book.length (many - 1)).all (shnB book claim ss) = false := by
        rw [List.all_eq_false]; exact ⟨t, ht, by rw [e]; decide⟩
      have := hq hl
      rw [e2] at this
      exact .same this
    unfold tupD
    walk_at "wx"
    walk_at "stp"; walk_at "wx"
    refine .inr ⟨_, t, hp, rfl, ?_⟩
    rw [look_tabS]
    cases ek : lkS ss t with
    | none =>
      walk_at "wx"
      rw [if_pos (by simp)]
      exact no (by unfold shnB; rw [ek])
    | some s =>
      have es : (t, s) ∈ ss := by
        unfold lkS at ek
        obtain ⟨e, he, rfl⟩ := Option.map_eq_some_iff.mp ek
        have h1 : decide (e.1 = t) = true := List.find?_some (p := fun p : List Int × List Bool => decide (p.1 = t)) he
        rw [← of_decide_eq_true h1]; exact List.mem_of_find?_eq_some he
      have s8 : s.length = 8 := h8 _ es
      have said : ∀ c, Cl8 c → Said8 c := fun c hc => ⟨by have := hc.1; omega, hc.2.2⟩
      have l1 := tups_len hl (n := many - 1) (by omega)
      walk_at "wx"
      rw [if_neg (by simp)]
      refine .inr ⟨_, t, bls s, hp, rfl, by rw [look_tabS, ek]; rfl, ?_⟩
      refine ⟨claim, s, rfl, s8, said _ hc, ?_⟩
      cases eh : holdsB claim s with
      | true =>
        walk_at "wx"
        exact no (by unfold shnB; rw [ek]; show (!holdsB claim s && _) = false; rw [eh]; rfl)
      | false =>
        walk_at "wx"
        walk_at "stp"; walk_at "wx"
        refine ⟨book, _, t, rfl, .inr rfl, by omega, tr.2, ?_⟩
        refine .inr ⟨_, t, bls s, hp, rfl, by rw [look_tabS, ek]; rfl, ?_⟩
        refine ⟨thoseL book t, s, rfl, s8, by simp [thoseL]; omega, fun c hc => said _ (hb c (those_mem tr.2 c hc)), ?_⟩
        walk_at "wx"
        have ev : shnB book claim ss t = (failingL (thoseL book t) s == []) := by unfold shnB; rw [ek]; show (!holdsB claim s && _) = _; rw [eh]; rfl
        cases ef : failingL (thoseL book t) s == [] with
        | true =>
          rw [if_neg (by simp)]
          refine hN _ _ ⟨rfl, ?_, _, rfl⟩
          rw [htk, List.all_append, hall]
          simp [ev, ef]
        | false =>
          rw [if_pos (by simp)]
          exact no (by rw [ev, ef])
  · rintro ρ g2 ⟨rfl, hall, x4, rfl⟩
    rw [List.take_length] at hall
    walk_at "wx"
    have := hq hl
    rw [hall] at this
    exact .same this
end G3

/-! T42: rising tuples, sorted; tables looked at -/
namespace G3
open PySem L2
local macro_rules | `(tactic| walk_at "wp") => `(tactic| simp only [wSs, wS, wE, wL, wO, wSq, wRet, wRetN, wAsg, wIf, wDrop, wFor, wPut, wNx, wArgs, wCons, wNil, wCall, wComp, wI, wB, wSeqT, wSeqL, wRng1, wRng2, wEnumL, wEnumT, wVar, wC, wBin, wUn, wNot, wAnd, wOr, wIte, wTest, wTrk, wSlc, wNoPart, wPart, fMt, List.getElem?_cons_succ, List.getElem?_cons_zero, tupOf, lstOf, gdOf, ex_eq, ex_eq', ex2_eq, ex2_eq', Bfn.f, Mth.f, compT, tgB, setAll, wipeD, wYes, List.map_cons, List.map_nil, List.set_cons_succ, List.set_cons_zero, List.length_cons, List.length_nil, Bop.f, Cop.f, Iop.f, fI2, fS2, fIx, fNeg, true_and, and_true, if_true, bodyEnds, R.fz_v, R.fz_tl, atI_0, atI_1, atI_2, atI_3, Option.some.injEq, DO.lst.injEq, decide_eq_true_eq, gup_same, gup_gup, or_false, ixN_s0, ixN_s1, ixN_s2, List.length_set, List.length_map, szl, Nat.reduceAdd, Nat.zero_add, Nat.reduceLeDiff, Nat.zero_le, Int.reduceLE, exists_eq', false_or, fAddT, fAddL, fSl, rolOf, Bool.not_true, Bool.not_false, Bool.false_eq_true, if_false, Bool.false_xor, Bool.xor_true, beq_self_eq_true, isiB_bb, isiB_ll, decide_true, isiB_tt, fIsN, isNon, wTry, wCallv, wRaise, setO, gonO, tryEnds, wMk, wMkAt, wAt, wRaiseAt, isKd, Mth.kd, eq_self, wDis, wDnK, wDnT, wDput, wPar, wRngD, wFld, wMeth, wNew, wSfld, wCh3, wPar3, wRevL, wDputM, wText, fInT, wIng, wSfld2, wDead, wLock, lckE, wLockE, wKeysL, fDIxL, fDmt, Dmt.f])
local macro_rules | `(tactic| walk_at "stp") => `(tactic| first | (rw [wHid_eq]; conv in (wSs _) => arg 1; whnf) | (conv in (wSs _) => arg 1; whnf))
local macro_rules | `(tactic| walk_at "wx") => `(tactic| simp only [wSs, wS, wE, wL, wO, wSq, wRet, wRetN, wAsg, wIf, wDrop, wFor, wPut, wNx, wArgs, wCons, wNil, wCall, wComp, wI, wB, wSeqT, wSeqL, wRng1, wRng2, wEnumL, wEnumT, wVar, wC, wBin, wUn, wNot, wAnd, wOr, wIte, wTest, wTrk, wSlc, wNoPart, wPart, fMt, List.getElem?_cons_succ, List.getElem?_cons_zero, tupOf, lstOf, gdOf, ex_eq, ex_eq', ex2_eq, ex2_eq', Bfn.f, Mth.f, compT, tgB, setAll, wipeD, wYes, List.map_cons, List.map_nil, List.set_cons_succ, List.set_cons_zero, List.length_cons, List.length_nil, Bop.f, Cop.f, Iop.f, fI2, fS2, fIx, fNeg, true_and, and_true, if_true, bodyEnds, R.fz_v, R.fz_tl, atI_0, atI_1, atI_2, atI_3, Option.some.injEq, DO.lst.injEq, decide_eq_true_eq, gup_same, gup_gup, or_false, ixN_s0, ixN_s1, ixN_s2, List.length_set, List.length_map, szl, Nat.reduceAdd, Nat.zero_add, Nat.reduceLeDiff, Nat.zero_le, Int.reduceLE, exists_eq', false_or, fAddT, fAddL, fSl, rolOf, Bool.not_true, Bool.not_false, Bool.false_eq_true, if_false, Bool.false_xor, Bool.xor_true, beq_self_eq_true, isiB_bb, isiB_ll, decide_true, isiB_tt, fIsN, isNon, wTry, wCallv, wRaise, setO, gonO, tryEnds, wMk, wMkAt, wAt, wRaiseAt, isKd, Mth.kd, eq_self, wDis, wDnK, wDnT, wDput, wPar, wRngD, wFld, wMeth, wNew, wSfld, wCh3, wPar3, wRevL, wDputM, wText, fInT, wIng, wSfld2, wDead, wLock, lckE, wLockE, wKeysL, fDIxL, fDmt, Dmt.f, eIn_tI, eIn_lI, eEq_tI, eEq_lI, eEq_tl, eEq_tl', eEq_bl, eEq_tN, eEq_lN, fIsE, Ufn.f, fSSet, fLSet, if_true, if_false, Bool.true_xor, Bool.xor_false, seqOf, fIxA, fSlA, fAddA, fInA, wSeqA, wEnumA, isKd, Mth.kd, fB2, okD_int, okD_bl, okDs_intsN, inD_ints, fRepL, fAddS, fIxS, eEq_int, wCh, fLRng, fRevT, fRow2, fTRng, fLSetT, fMaxD, wStp, fLz, wLockX, wDisE, Tfn.f, fDEq, fDInL, fDIxA])
def b_law_sfar_case_7 : Sl := .cons (.ret (.tup (.cons (.blf .tuple (.cons (.var 3) (.nil))) (.cons (.var 4) (.cons (.blf .sorted (.cons (.var 2) (.nil))) (.nil)))))) (.nil)
def b_law_sfar_case_6 : Sl := .cons (.asg (.nm 4) (.idx .any (.idx .any (.call "_law_stold" sp_law_stold (.cons (.blf .tuple (.cons (.var 3) (.nil))) (.cons (.var 5) (.nil)))) (.cst (.int 0))) (.neg (.cst (.int 1))))) (.nil)
def b_law_sfar_case_5 : Sl := .cons (.asg (.nm 5) (.call "_law_sladder" sp_law_sladder (.cons (.var 0) (.cons (.blf .tuple (.cons (.var 3) (.nil))) (.cons (.cst (.int 8)) (.nil)))))) (.part b_law_sfar_case_6)
def b_law_sfar_case_4 : Sl := .cons (.ifs (.and (.cmp .gtI (.blf .len (.cons (.var 3) (.nil))) (.cst (.int 1))) (.cmp .eqI (.call "_law_sdraw" sp_law_sdraw (.cons (.var 0) (.cons (.cst (.int 2)) (.nil)))) (.cst (.int 0)))) (.part b_law_sfar_case_5) (.nil)) (.part b_law_sfar_case_7)
def b_law_sfar_case_3 : Sl := .cons (.asg (.nm 4) (.idx .l (.var 3) (.call "_law_sdraw" sp_law_sdraw (.cons (.var 0) (.cons (.blf .len (.cons (.var 3) (.nil))) (.nil)))))) (.part b_law_sfar_case_4)
def b_law_sfar_case_2 : Sl := .cons (.asg (.nm 3) (.comp [("turn", 6)] (.rng1 (.cons (.bin .addI (.cst (.int 1)) (.call "_law_sdraw" sp_law_sdraw (.cons (.var 0) (.cons (.var 1) (.nil))))) (.nil))) (.nm 6) (.no) (.call "_law_sclaim" sp_law_sclaim (.cons (.var 0) (.cons (.var 2) (.cons (.cst (.int 4)) (.nil))))))) (.part b_law_sfar_case_3)
def b_law_sfar_case : Sl := .cons (.asg (.nm 2) (.call "_law_sthings" sp_law_sthings (.cons (.var 0) (.cons (.cst (.int 5)) (.cons (.cst (.int 8)) (.nil)))))) (.part b_law_sfar_case_2)
def sp_law_sfar_case : GSp := fun ds g Q _ => ∃ (p : Addr) (o : DO) (n most : Int), ds = [.ref p, .int most] ∧ g p = some o ∧ FeedO o n ∧ 0 ≤ n ∧ n ≤ 2 ^ 59 ∧ 1 ≤ most ∧ most ≤ 10 ∧
  ∀ book claim every o', CaseOk book claim every → (book.length : Int) ≤ most → FeedO o' (n + 600) → Q (.v (.tup [cls book, cl claim, .lst (every.map .int)])) (gup g p o')
theorem w_law_sfar_case : ∀ ds g Q W, sp_law_sfar_case ds g Q W → wSs b_law_sfar_case (bodyEnds g Q W) (startD 7 ds) g := by
  rintro ds g Q W ⟨p, o, n, most, rfl, hp, hf, hn0, hn1, hm1, hm2, h⟩
  change wSs _ _ [some _, some _, none, none, none, none, none] g
  walk_at "stp"; walk_at "wx"
  refine ⟨p, o, n, 5, 8, rfl, hp, hf, by omega, by omega, by omega, by omega, fun things left o1 hpm hl1 hl5 hf1 => ?_⟩
  obtain ⟨hx, hnd, hl8⟩ := perm8 hpm
  walk_at "stp"; walk_at "wx"
  refine ⟨p, o1, _, most, rfl, gup_same, hf1, by omega, by omega, by omega, fun d o2 hd0 hd1 hf2 => ?_⟩
  walk_at "wx"
  refine ⟨by omega, by omega, ?_⟩
  refine compW_rng (fun k acc g' => ∃ (o : DO) (cs : List (List Int)), FeedO o (n + 10 + 17 * k) ∧ (k : Int) ≤ 10 ∧ (∀ c ∈ cs, ClaimOf things c) ∧ cs.length = k ∧ acc = cs.map cl ∧ g' = gup g p o) ?_ ?_ ?_ ?_
  · exact ⟨o2, [], hf2.up (by omega), by omega, by simp, rfl, rfl, rfl⟩
  · rintro k acc g' ⟨o, cs, -, h8, -, hl, rfl, -⟩
    rw [List.length_map, szl]; omega
  · rintro k hk acc g' ⟨o3, cs, hf3, h8, hcs, hl, rfl, rfl⟩ P h1 h2
    walk_at "wx"
    refine ⟨p, o3, _, 4, things, rfl, gup_same, hf3, by omega, by omega, by omega, by omega, fun x m => (hx x m).1, fun c o4 hc _ hf4 => ?_⟩
    walk_at "wx"
    refine h1 _ _ ⟨o4, cs ++ [c], hf4.up (by omega), by omega, fun c' hc' => ?_, by simp [hl], by simp [cl], rfl⟩
    rcases List.mem_append.mp hc' with m | m
    · exact hcs c' m
    · rw [List.mem_singleton.mp m]; exact hc
  · rintro acc g' ⟨o3, book, hf3, h10, hb', hbl, rfl, rfl⟩
    have hb8 : ∀ c ∈ book, Cl8 c := fun c hc => (hb' c hc).cl8 hnd hx hl8
    have fin : ∀ (claim : List Int) (x5 x6 : Option D) (o' : DO) (g2 : GH), Cl8 claim → (∀ z ∈ claim, (z.natAbs : Int) ∈ things) → FeedO o' (n + 600) → (∀ b u, gup g p o' b = some u → g2 b = some u) →
        wHid (wSs b_law_sfar_case_7) { nx := fun x g' => RetOk g Q (R.v D.non) g', rt := RetOk g Q, ct := fun x x_1 => False, ex := XRet W }
          [some (.ref p), some (.int most), some (.lst (things.map .int)), some (.lst (book.map cl)), some (cl claim), x5, x6] g2 := by
      intro claim x5 x6 o' g2 hc hcm hf' hg
      walk_at "stp"; walk_at "wx"
      refine ⟨things, rfl, .less hg ?_⟩
      have hm : ∀ t, t ∈ isort things ↔ t ∈ things := fun t => (isort_perm _).mem_iff
      refine h book claim (isort things) o' ⟨by omega, by omega, hb8, hc, by rw [(isort_perm _).length_eq]; exact hl8, fun t ht => hx t ((hm t).mp ht), fun c hc' z hz => (hm _).mpr ?_⟩ (by omega) hf'
      rcases List.mem_append.mp hc' with hc' | hc'
      · exact (hb' c hc').mem hz
      · rw [List.mem_singleton.mp hc'] at hz; exact hcm z hz
    walk_at "stp"; walk_at "wx"
    refine ⟨p, o3, _, book.length, rfl, gup_same, hf3, by omega, by omega, by omega, fun d2 o4 h40 h41 hf4 => ?_⟩
    walk_at "wx"
    obtain ⟨c, mc, -, ec⟩ := atI_map cl (xs := book) h40 h41
    refine ⟨_, ec, ?_⟩
    have hc8 := hb8 c mc
    have hcm : ∀ z ∈ c, (z.natAbs : Int) ∈ things := fun z hz => (hb' c mc).mem hz
    have ecls : D.tup (List.map cl book) = cls book := rfl
    walk_at "stp"; walk_at "wx"
    split
    · rename_i h1
      refine ⟨p, o4, _, 2, rfl, gup_same, hf4, by omega, by omega, by omega, fun d3 o5 h50 h51 hf5 => ?_⟩
      walk_at "wx"
      split
      · walk_at "stp"; walk_at "wx"
        rw [ecls]
        refine ⟨p, o5, _, book, 8, rfl, gup_same, hf5, by omega, by omega, by omega, by omega, hb8, by omega, by omega, fun rows claims o6 hL hl hf6 => ?_⟩
        walk_at "wx"
        have hT := hL.told (by omega) (by omega)
        walk_at "stp"; walk_at "wx"
        rw [ecls]
        refine ⟨book, .lst rows, rows, rfl, .inl rfl, by omega, hL.rows_ok, hb8, fun q hq => ?_⟩
        rw [hT]
        have hcl : 0 < claims.length := by have := hL.1; omega
        obtain ⟨c2, mc2, ec2, ea⟩ := atI_map_last cl hcl
        walk_at "wx"
        refine ⟨_, ea, fin c2 _ _ o6 _ (hL.cl8 hb8 (by omega) c2 mc2) (fun z hz => ?_) (hf6.up (by omega)) (gle_up gle_rfl hq)⟩
        obtain ⟨b, mb, hzb⟩ := hL.says _ c2 ec2 z hz
        exact (hb' b mb).mem hzb
      · exact fin c _ _ o5 _ hc8 hcm (hf5.up (by omega)) gle_rfl
    · exact fin c _ _ o4 _ hc8 hcm (hf4.up (by omega)) gle_rfl

theorem lex_uniq : ∀ {l l' : List (List Int)}, l.Perm l' → l.Pairwise (fun a b => lexL b a = false) → l'.Pairwise (fun a b => lexL b a = false) → l = l'
  | [], l', p, _, _ => (List.Perm.nil_eq p)
  | a :: l, [], p, _, _ => by simpa using p.length_eq
  | a :: l, b :: l', p, h, h' => by
    rw [List.pairwise_cons] at h h'
    have e : a = b := by
      have h1 : b ∈ a :: l := p.mem_iff.mpr List.mem_cons_self
      have h2 : a ∈ b :: l' := p.mem_iff.mp List.mem_cons_self
      rcases List.mem_cons.mp h1 with e | h1
      · exact e.symm
      · rcases List.mem_cons.mp h2 with e | h2
        · exact e
        · exact lexL_eq (h'.1 a h2) (h.1 b h1)
    subst e
    rw [lex_uniq (p.cons_inv) h.2 h'.2]
/-- the tuples found in j rounds -/
def foundF (many : Int) : Nat → List (List Int)
  | 0 => [[]]
  | j + 1 => foundF many j ++ ((foundF many j).filter fun t => decide ((t.length : Int) < many)).map fun t => t ++ [(j : Int)]
theorem foundF_len (many : Int) : ∀ j, (foundF many j).length ≤ 2 ^ j
  | 0 => Nat.le_refl _
  | j + 1 => by
    unfold foundF
    rw [List.length_append, List.length_map]
    have h1 := foundF_len many j
    have h2 := List.length_filter_le (fun t => decide ((t.length : Int) < many)) (foundF many j)
    rw [Nat.pow_succ]; omega
theorem ris_snoc {j : Nat} {t : List Int} (h : RisT j t) : RisT (j + 1) (t ++ [(j : Int)]) := by
  refine ⟨List.pairwise_append.mpr ⟨h.1, List.pairwise_singleton _ _, fun x hx y hy => by rw [List.mem_singleton.mp hy]; exact (h.2 x hx).2⟩, fun z hz => ?_⟩
  rcases List.mem_append.mp hz with hz | hz
  · have := h.2 z hz; omega
  · rw [List.mem_singleton.mp hz]; omega
theorem ris_cases {j : Nat} {t : List Int} (h : RisT (j + 1) t) : RisT j t ∨ ∃ u, t = u ++ [(j : Int)] ∧ RisT j u := by
  rcases List.eq_nil_or_concat t with rfl | ⟨u, y, e⟩
  · exact .inl ⟨.nil, by simp⟩
  · rw [List.concat_eq_append] at e
    subst e
    have hp := List.pairwise_append.mp h.1
    have hy := h.2 y (by simp)
    have hu : ∀ z ∈ u, 0 ≤ z ∧ z < y := fun z hz => ⟨(h.2 z (List.mem_append_left _ hz)).1, hp.2.2 z hz y (by simp)⟩
    by_cases e : y = (j : Int)
    · subst e
      exact .inr ⟨u, rfl, hp.1, hu⟩
    · refine .inl ⟨h.1, fun z hz => ?_⟩
      rcases List.mem_append.mp hz with hz | hz
      · have := hu z hz; omega
      · rw [List.mem_singleton.mp hz]; omega
theorem mem_foundF {many : Int} : ∀ {j : Nat} {t : List Int}, t ∈ foundF many j ↔ RisT j t ∧ (t = [] ∨ (t.length : Int) ≤ many)
  | 0, t => by
    unfold foundF
    rw [List.mem_singleton]
    constructor
    · rintro rfl; exact ⟨⟨.nil, by simp⟩, .inl rfl⟩
    · rintro ⟨h, -⟩
      cases t with
      | nil => rfl
      | cons a t => have := h.2 a (by simp); omega
  | j + 1, t => by
    unfold foundF
    rw [List.mem_append, List.mem_map]
    constructor
    · rintro (h | ⟨u, hu, rfl⟩)
      · obtain ⟨h1, h2⟩ := mem_foundF.mp h
        exact ⟨⟨h1.1, fun z hz => by have := h1.2 z hz; omega⟩, h2⟩
      · obtain ⟨m, hl⟩ := List.mem_filter.mp hu
        have hl := of_decide_eq_true hl
        exact ⟨ris_snoc (mem_foundF.mp m).1, .inr (by rw [List.length_append]; simp; omega)⟩
    · rintro ⟨h, hl⟩
      rcases ris_cases h with h' | ⟨u, rfl, hu⟩
      · exact .inl (mem_foundF.mpr ⟨h', hl⟩)
      · have hl : ((u.length : Int)) < many := by
          rcases hl with e | hl
          · simp at e
          · rw [List.length_append] at hl; simp at hl; omega
        exact .inr ⟨u, List.mem_filter.mpr ⟨mem_foundF.mpr ⟨hu, .inr (by omega)⟩, decide_eq_true hl⟩, rfl⟩
theorem foundF_nodup {many : Int} : ∀ j, (foundF many j).Nodup
  | 0 => by unfold foundF; simp
  | j + 1 => by
    unfold foundF
    refine List.nodup_append.mpr ⟨foundF_nodup j, ?_, fun a ha b hb e => ?_⟩
    · exact List.Pairwise.map _ (fun x y h e => h (List.append_inj' e rfl).1) ((foundF_nodup j).filter _)
    · subst e
      obtain ⟨u, hu, rfl⟩ := List.mem_map.mp hb
      have := ((mem_foundF.mp ha).1.2 (j : Int) (by simp)).2
      omega
/-- the tuples of so many, by a whole number -/
def tupsI (count : Nat) (many : Int) : List (List Int) := if many < 0 then [] else tupsF count many.toNat
theorem found_perm {count : Nat} {many : Int} : ((foundF many count).filter fun t => decide ((t.length : Int) = many)).Perm (tupsI count many) := by
  unfold tupsI
  split
  · rename_i h
    rw [List.filter_eq_nil_iff.mpr fun t _ e => by have := of_decide_eq_true e; omega]
  · rename_i h
    refine (List.perm_ext_iff_of_nodup ((foundF_nodup _).filter _) (tups_nodup _)).mpr fun t => ?_
    rw [List.mem_filter, mem_foundF, mem_tups]
    constructor
    · rintro ⟨⟨h1, -⟩, e⟩
      have := of_decide_eq_true e
      exact ⟨by omega, h1⟩
    · rintro ⟨h1, h2⟩
      exact ⟨⟨h2, .inr (by omega)⟩, decide_eq_true (by omega)⟩
theorem tupsI_ne {count : Nat} {many : Int} (h : 2 ≤ (tupsI count many).length) : ∀ t ∈ tupsI count many, t ≠ [] := by
  unfold tupsI at h ⊢
  split at h
  · simp at h
  · rename_i h0
    rw [if_neg h0]
    intro t ht e
    obtain ⟨h1, h2⟩ := mem_tups.mp ht
    rw [e] at h1
    rw [← h1] at h
    simp [tupsF] at h
def n_law_s_tuples : List Str := ["count", "many", "found", "number", "some"]
def b_law_s_tuples_4 : Sl := .cons (.ret (.blf .sortedT (.cons (.comp [("some", 4)] (.seqL (.var 2)) (.nm 4) (.so (.cmp .eqI (.blf .len (.cons (.var 4) (.nil))) (.var 1))) (.var 4)) (.nil)))) (.nil)
def b_law_s_tuples_3 : Sl := .cons (.asg (.nm 2) (.bin .addL (.var 2) (.comp [("some", 4)] (.seqL (.var 2)) (.nm 4) (.so (.cmp .ltI (.blf .len (.cons (.var 4) (.nil))) (.var 1))) (.bin .addT (.var 4) (.tup (.cons (.var 3) (.nil))))))) (.nil)
def b_law_s_tuples : Sl := .cons (.asg (.nm 2) (.lst (.cons (.tup (.nil)) (.nil)))) (.cons (.for_ (.rng1 (.cons (.var 0) (.nil))) (.nm 3) (.part b_law_s_tuples_3)) (.part b_law_s_tuples_4))
def sp_law_s_tuples : GSp := fun ds g Q _ => ∃ (count : Nat) (many : Int), ds = [.int (count : Int), .int many] ∧ count ≤ 10 ∧ -1 ≤ many ∧ many ≤ 12 ∧
  ∀ us : List (List Int), us.Perm (tupsI count many) → us.Pairwise (fun a b => lexL b a = false) → Q (.tl (us.map tupD)) g
theorem w_law_s_tuples : ∀ ds g Q W, sp_law_s_tuples ds g Q W → wSs b_law_s_tuples (bodyEnds g Q W) (startD 5 ds) g := by
  rintro ds g Q W ⟨count, many, rfl, hc, hm0, hm1, h⟩
  change wSs _ _ [some _, some _, none, none, none] g
  walk_at "stp"; walk_at "wx"
  refine ⟨by omega, by omega, ?_⟩
  rw [Int.toNat_natCast]
  have lb : ∀ j, j ≤ count → (foundF many j).length ≤ 1024 := fun j hj => Nat.le_trans (foundF_len many j) (Nat.pow_le_pow_right (by decide) (by omega : j ≤ 10))
  have tl : ∀ j, j ≤ count → ∀ t ∈ foundF many j, t.length ≤ 12 := fun j hj t ht => by
    rcases (mem_foundF.mp ht).2 with rfl | h
    · simp
    · omega
  refine forW_rng (fun k ρ g' => g' = g ∧ ∃ x3 x4, ρ = [some (.int (count : Int)), some (.int many), some (.lst ((foundF many k).map tupD)), x3, x4]) ⟨rfl, none, none, rfl⟩ ?_ ?_
  · rintro i hi ρ g' ⟨rfl, x3, x4, rfl⟩ N hN
    walk_at "wx"
    walk_at "stp"; walk_at "wx"
    refine compW_fm tupD (fun t => decide ((t.length : Int) < many)) (fun t => tupD (t ++ [(i : Int)])) trivial (acc := []) (fun t ht P hP => ?_) (by rw [szl]; have := lb i (by omega); simp; omega) ?_
    · have := tl i (by omega) t ht
      unfold tupD
      walk_at "wx"
      cases e : decide ((t.length : Int) < many) with
      | true =>
        rw [e, if_pos rfl] at hP
        rw [if_pos (by simpa using e)]
        refine ⟨by omega, ?_⟩
        unfold tupD at hP
        rw [List.map_append] at hP
        exact hP
      | false =>
        rw [e, if_neg Bool.false_ne_true] at hP
        rw [if_neg (by simpa using e)]
        exact hP
    · have l1 := lb i (by omega)
      have l2 := lb (i + 1) (by omega)
      have e : (foundF many i).map tupD ++ ((foundF many i).filter fun t => decide ((t.length : Int) < many)).map (fun t => tupD (t ++ [(i : Int)])) = (foundF many (i + 1)).map tupD := by
        conv => rhs; unfold foundF
        rw [List.map_append, List.map_map]; rfl
      rw [List.nil_append]
      have e2 := congrArg List.length e
      simp only [List.length_append, List.length_map] at e2
      refine ⟨by simp only [List.length_map]; omega, ?_⟩
      rw [e]
      exact hN _ _ ⟨rfl, _, _, rfl⟩
  · rintro ρ g' ⟨rfl, x3, x4, rfl⟩
    walk_at "stp"; walk_at "wx"
    refine compW_fm tupD (fun t => decide ((t.length : Int) = many)) tupD trivial (acc := []) (fun t ht P hP => ?_) (by rw [szl]; have := lb count (by omega); simp; omega) ?_
    · unfold tupD
      walk_at "wx"
      cases e : decide ((t.length : Int) = many) with
      | true =>
        rw [e, if_pos rfl] at hP
        rw [if_pos (by simpa using e)]
        exact hP
      | false =>
        rw [e, if_neg Bool.false_ne_true] at hP
        rw [if_neg (by simpa using e)]
        exact hP
    · rw [List.nil_append]
      have pm := found_perm (count := count) (many := many)
      refine ⟨_, .inl rfl, fun h2 t ht => tupsI_ne (by rw [← pm.length_eq]; exact h2) t (pm.mem_iff.mp ht), fun us hp hs => .same ?_⟩
      exact h us (hp.trans pm) hs
end G3

/-! G3ha: tuples of whole numbers apart by their numbers in a table -/
namespace G3
open PySem L2
def bitB (n i : Nat) : Bool := (n >>> i) % 2 == 1
/-- no number twice: parted by bits -/
def ndB : Nat → List Nat → Bool
  | _, [] => true
  | _, [_] => true
  | 0, _ => false
  | k + 1, a :: b :: l => ndB k ((a :: b :: l).filter fun n => bitB n k) && ndB k ((a :: b :: l).filter fun n => !bitB n k)
theorem nodup_parts {l : List Nat} {p : Nat → Bool} (h1 : (l.filter p).Nodup) (h2 : (l.filter fun n => !p n).Nodup) : l.Nodup := by
  rw [List.nodup_iff_count] at *
  intro a
  have e : l.count a = (l.filter p).count a + (l.filter fun n => !p n).count a := by
    have := List.Perm.count_eq (List.filter_append_perm p l) a
    rw [List.count_append] at this
    rw [← this]
  cases hp : p a with
  | true =>
    have : (l.filter fun n => !p n).count a = 0 := List.count_eq_zero.mpr fun m => by have := (List.mem_filter.mp m).2; rw [hp] at this; cases this
    have := h1 a
    omega
  | false =>
    have : (l.filter p).count a = 0 := List.count_eq_zero.mpr fun m => by have := (List.mem_filter.mp m).2; rw [hp] at this; cases this
    have := h2 a
    omega
theorem ndB_ok : ∀ (k : Nat) (l : List Nat), ndB k l = true → l.Nodup
  | _, [], _ => List.nodup_nil
  | _, [_], _ => by simp
  | 0, _ :: _ :: _, h => by simp [ndB] at h
  | k + 1, a :: b :: l, h => by
    unfold ndB at h
    rw [Bool.and_eq_true] at h
    exact nodup_parts (ndB_ok k _ h.1) (ndB_ok k _ h.2)
def natH (t : List Int) : Nat := (hshI t + 2 ^ 64).toNat
theorem inj_of {U : List (List Int)} (h : ndB 66 (U.map natH) = true) {a b : List Int} (ha : a ∈ U) (hb : b ∈ U) (e : hshI a = hshI b) : a = b := by
  have hn := ndB_ok _ _ h
  have go : ∀ {l : List (List Int)}, (l.map natH).Nodup → a ∈ l → b ∈ l → a = b := by
    intro l
    induction l with
    | nil => intro _ m; cases m
    | cons x l ih =>
      intro hn ma mb
      rw [List.map_cons, List.nodup_cons] at hn
      have en : natH a = natH b := by unfold natH; rw [e]
      rcases List.mem_cons.mp ma with e1 | m1
      · rcases List.mem_cons.mp mb with e2 | m2
        · rw [e1, e2]
        · exact absurd (List.mem_map.mpr ⟨b, m2, by rw [← en, e1]⟩) hn.1
      · rcases List.mem_cons.mp mb with e2 | m2
        · exact absurd (List.mem_map.mpr ⟨a, m1, by rw [en, e2]⟩) hn.1
        · exact ih hn.2 m1 m2
  exact go hn ha hb
theorem apart_of {U : List (List Int)} (h : ndB 66 (U.map natH) = true) {nss : List (List Int)} (hu : ∀ t ∈ nss, t ∈ U) (hn : nss.Nodup) : HApart (nss.map tK) := by
  refine ⟨nss, rfl, ?_⟩
  induction nss with
  | nil => exact List.nodup_nil
  | cons x l ih =>
    rw [List.nodup_cons] at hn
    rw [List.map_cons, List.nodup_cons]
    refine ⟨fun m => ?_, ih (fun t m => hu t (List.mem_cons_of_mem _ m)) hn.2⟩
    obtain ⟨y, my, e⟩ := List.mem_map.mp m
    have := inj_of h (hu y (List.mem_cons_of_mem _ my)) (hu x List.mem_cons_self) e
    subst this
    exact hn.1 my
/-- all rising tuples of numbers below j -/
def allT : Nat → List (List Int)
  | 0 => [[]]
  | j + 1 => allT j ++ (allT j).map fun t => t ++ [(j : Int)]
def uniT : List (List Int) := allT 10 ++ (((allT 10).filter fun t => decide (t ≠ [])).map fun t => t ++ t) ++ [[-1]] ++ (((allT 10).filter fun t => decide (2 ≤ t.length)).map List.reverse)
theorem uniT_nd : ndB 66 (uniT.map natH) = true := by decide +kernel
end G3

/-! T43: tables that show how many are needed -/
namespace G3
open PySem L2
local macro_rules | `(tactic| walk_at "wp") => `(tactic| simp only [wSs, wS, wE, wL, wO, wSq, wRet, wRetN, wAsg, wIf, wDrop, wFor, wPut, wNx, wArgs, wCons, wNil, wCall, wComp, wI, wB, wSeqT, wSeqL, wRng1, wRng2, wEnumL, wEnumT, wVar, wC, wBin, wUn, wNot, wAnd, wOr, wIte, wTest, wTrk, wSlc, wNoPart, wPart, fMt, List.getElem?_cons_succ, List.getElem?_cons_zero, tupOf, lstOf, gdOf, ex_eq, ex_eq', ex2_eq, ex2_eq', Bfn.f, Mth.f, compT, tgB, setAll, wipeD, wYes, List.map_cons, List.map_nil, List.set_cons_succ, List.set_cons_zero, List.length_cons, List.length_nil, Bop.f, Cop.f, Iop.f, fI2, fS2, fIx, fNeg, true_and, and_true, if_true, bodyEnds, R.fz_v, R.fz_tl, atI_0, atI_1, atI_2, atI_3, Option.some.injEq, DO.lst.injEq, decide_eq_true_eq, gup_same, gup_gup, or_false, ixN_s0, ixN_s1, ixN_s2, List.length_set, List.length_map, szl, Nat.reduceAdd, Nat.zero_add, Nat.reduceLeDiff, Nat.zero_le, Int.reduceLE, exists_eq', false_or, fAddT, fAddL, fSl, rolOf, Bool.not_true, Bool.not_false, Bool.false_eq_true, if_false, Bool.false_xor, Bool.xor_true, beq_self_eq_true, isiB_bb, isiB_ll, decide_true, isiB_tt, fIsN, isNon, wTry, wCallv, wRaise, setO, gonO, tryEnds, wMk, wMkAt, wAt, wRaiseAt, isKd, Mth.kd, eq_self, wDis, wDnK, wDnT, wDput, wPar, wRngD, wFld, wMeth, wNew, wSfld, wCh3, wPar3, wRevL, wDputM, wText, fInT, wIng, wSfld2, wDead, wLock, lckE, wLockE, wKeysL, fDIxL, fDmt, Dmt.f])
local macro_rules | `(tactic| walk_at "stp") => `(tactic| first | (rw [wHid_eq]; conv in (wSs _) => arg 1; whnf) | (conv in (wSs _) => arg 1; whnf))
local macro_rules | `(tactic| walk_at "wx") => `(tactic| simp only [wSs, wS, wE, wL, wO, wSq, wRet, wRetN, wAsg, wIf, wDrop, wFor, wPut, wNx, wArgs, wCons, wNil, wCall, wComp, wI, wB, wSeqT, wSeqL, wRng1, wRng2, wEnumL, wEnumT, wVar, wC, wBin, wUn, wNot, wAnd, wOr, wIte, wTest, wTrk, wSlc, wNoPart, wPart, fMt, List.getElem?_cons_succ, List.getElem?_cons_zero, tupOf, lstOf, gdOf, ex_eq, ex_eq', ex2_eq, ex2_eq', Bfn.f, Mth.f, compT, tgB, setAll, wipeD, wYes, List.map_cons, List.map_nil, List.set_cons_succ, List.set_cons_zero, List.length_cons, List.length_nil, Bop.f, Cop.f, Iop.f, fI2, fS2, fIx, fNeg, true_and, and_true, if_true, bodyEnds, R.fz_v, R.fz_tl, atI_0, atI_1, atI_2, atI_3, Option.some.injEq, DO.lst.injEq, decide_eq_true_eq, gup_same, gup_gup, or_false, ixN_s0, ixN_s1, ixN_s2, List.length_set, List.length_map, szl, Nat.reduceAdd, Nat.zero_add, Nat.reduceLeDiff, Nat.zero_le, Int.reduceLE, exists_eq', false_or, fAddT, fAddL, fSl, rolOf, Bool.not_true, Bool.not_false, Bool.false_eq_true, if_false, Bool.false_xor, Bool.xor_true, beq_self_eq_true, isiB_bb, isiB_ll, decide_true, isiB_tt, fIsN, isNon, wTry, wCallv, wRaise, setO, gonO, tryEnds, wMk, wMkAt, wAt, wRaiseAt, isKd, Mth.kd, eq_self, wDis, wDnK, wDnT, wDput, wPar, wRngD, wFld, wMeth, wNew, wSfld, wCh3, wPar3, wRevL, wDputM, wText, fInT, wIng, wSfld2, wDead, wLock, lckE, wLockE, wKeysL, fDIxL, fDmt, Dmt.f, eIn_tI, eIn_lI, eEq_tI, eEq_lI, eEq_tl, eEq_tl', eEq_bl, eEq_tN, eEq_lN, fIsE, Ufn.f, fSSet, fLSet, if_true, if_false, Bool.true_xor, Bool.xor_false, seqOf, fIxA, fSlA, fAddA, fInA, wSeqA, wEnumA, isKd, Mth.kd, fB2, okD_int, okD_bl, okDs_intsN, inD_ints, fRepL, fAddS, fIxS, eEq_int, wCh, fLRng, fRevT, fRow2, fTRng, fLSetT, fMaxD, wStp, fLz, wLockX, wDisE, Tfn.f, fDEq, fDInL, fDIxA])
theorem mem_allT : ∀ {j : Nat} {t : List Int}, RisT j t → t ∈ allT j
  | 0, t, h => by
    cases t with
    | nil => exact List.mem_singleton.mpr rfl
    | cons a t => have := h.2 a (by simp); omega
  | j + 1, t, h => by
    unfold allT
    rw [List.mem_append, List.mem_map]
    rcases ris_cases h with h' | ⟨u, rfl, hu⟩
    · exact .inl (mem_allT h')
    · exact .inr ⟨u, mem_allT hu, rfl⟩
theorem uni_ris {c : Nat} {t : List Int} (hc : c ≤ 10) (h : RisT c t) : t ∈ uniT := by
  have := mem_allT (j := 10) (t := t) ⟨h.1, fun z hz => by have := h.2 z hz; omega⟩
  unfold uniT
  simp only [List.mem_append]
  exact .inl (.inl (.inl this))
theorem uni_two {c : Nat} {t : List Int} (hc : c ≤ 10) (h : RisT c t) (hn : t ≠ []) : t ++ t ∈ uniT := by
  have := mem_allT (j := 10) (t := t) ⟨h.1, fun z hz => by have := h.2 z hz; omega⟩
  unfold uniT
  simp only [List.mem_append]
  exact .inl (.inl (.inr (List.mem_map.mpr ⟨t, List.mem_filter.mpr ⟨this, decide_eq_true hn⟩, rfl⟩)))
theorem uni_neg : [-1] ∈ uniT := by
  unfold uniT
  simp only [List.mem_append]
  exact .inl (.inr (List.mem_singleton.mpr rfl))
theorem uni_rev {c : Nat} {t : List Int} (hc : c ≤ 10) (h : RisT c t) : t.reverse ∈ uniT := by
  by_cases h2 : 2 ≤ t.length
  · have := mem_allT (j := 10) (t := t) ⟨h.1, fun z hz => by have := h.2 z hz; omega⟩
    unfold uniT
    simp only [List.mem_append]
    exact .inr (List.mem_map.mpr ⟨t, List.mem_filter.mpr ⟨this, decide_eq_true h2⟩, rfl⟩)
  · have e : t.reverse = t := by
      match t, h2 with
      | [], _ => rfl
      | [a], _ => rfl
      | _ :: _ :: _, h2 => simp at h2
    rw [e]; exact uni_ris hc h
structure TbOk (rows : List (List Int × List Bool)) : Prop where
  nd : (rows.map (·.1)).Nodup
  uni : ∀ r ∈ rows, r.1 ∈ uniT
  s8 : ∀ r ∈ rows, r.2.length = 8
  len : rows.length ≤ 300
theorem tbr_keys {rows : List (List Int × List Bool)} : (tabS rows).map (·.1) = (rows.map (·.1)).map tK := by
  unfold tabS; rw [List.map_map, List.map_map]; rfl
theorem TbOk.apart {rows : List (List Int × List Bool)} (h : TbOk rows) : HApart ((tabS rows).map (·.1)) := by
  rw [tbr_keys]
  refine apart_of uniT_nd (fun t m => ?_) h.nd
  obtain ⟨r, hr, rfl⟩ := List.mem_map.mp m
  exact h.uni r hr
theorem tK_map_nd : ∀ {l : List (List Int)}, l.Nodup → (l.map tK).Nodup
  | [], _ => List.nodup_nil
  | x :: l, h => by
    rw [List.nodup_cons] at h
    rw [List.map_cons, List.nodup_cons]
    exact ⟨fun m => by obtain ⟨y, hy, e⟩ := List.mem_map.mp m; exact h.1 (tK_injY e ▸ hy), tK_map_nd h.2⟩
theorem TbOk.knd {rows : List (List Int × List Bool)} (h : TbOk rows) : kNd (tabS rows) := by
  unfold kNd
  rw [tbr_keys]
  exact tK_map_nd h.nd
/-- the numbers that are needed, shown by a table -/
def needB (book : List (List Int)) (claim : List Int) (m : Nat) (rows : List (List Int × List Bool)) : Bool := (tupsF book.length m).all (shnB book claim rows)
def n_law_s_due : List Str := ["book", "claim", "many", "table", "numbers"]
def b_law_s_due_4 : Sl := .cons (.ifs (.not (.call "_law_sis_against" sp_law_sis_against (.cons (.call "_law_sthose" sp_law_sthose (.cons (.var 0) (.cons (.var 4) (.nil)))) (.cons (.var 1) (.cons (.idx .da (.var 3) (.var 4)) (.nil)))))) (.cons (.ret (.cst (.bl false))) (.nil)) (.nil)) (.nil)
def b_law_s_due_2 : Sl := .cons (.ifs (.cmp .ninL (.var 4) (.var 3)) (.cons (.ret (.cst (.bl false))) (.nil)) (.nil)) (.part b_law_s_due_4)
def b_law_s_due : Sl := .cons (.for_ (.seqL (.call "_law_s_tuples" sp_law_s_tuples (.cons (.blf .len (.cons (.var 0) (.nil))) (.cons (.bin .subI (.var 2) (.cst (.int 1))) (.nil))))) (.nm 4) (.part b_law_s_due_2)) (.cons (.ret (.cst (.bl true))) (.nil))
def sp_law_s_due : GSp := fun ds g Q _ => ∃ (book : List (List Int)) (claim : List Int) (m : Nat) (a : Addr) (rows : List (List Int × List Bool)), ds = [cls book, cl claim, .int ((m : Int) + 1), .ref a] ∧ g a = some (.dt (tabS rows)) ∧ TbOk rows ∧ m ≤ 10 ∧ (∀ c ∈ book, Cl8 c) ∧ Cl8 claim ∧
  book.length ≤ 10 ∧ Q (.v (.bl (needB book claim m rows))) g
theorem w_law_s_due : ∀ ds g Q W, sp_law_s_due ds g Q W → wSs b_law_s_due (bodyEnds g Q W) (startD 5 ds) g := by
  rintro ds g Q W ⟨book, claim, m, a, rows, rfl, ha, hT, hm, hb, hc, hl, h⟩
  change wSs _ _ [some _, some _, some _, some _, none] g
  have said : ∀ c, Cl8 c → Said8 c := fun c hc => ⟨by have := hc.1; omega, hc.2.2⟩
  walk_at "stp"; walk_at "wx"
  refine ⟨book.length, m, by rw [show (m : Int) + 1 - 1 = (m : Int) by omega], hl, by omega, by omega, fun us hp hs => ?_⟩
  have hp : us.Perm (tupsF book.length m) := by
    have := hp
    unfold tupsI at this
    rwa [if_neg (by omega), Int.toNat_natCast] at this
  have hall : needB book claim m rows = us.all (shnB book claim rows) := by
    unfold needB
    rw [Bool.eq_iff_iff, List.all_eq_true, List.all_eq_true]
    exact ⟨fun h x m => h x (hp.mem_iff.mp m), fun h x m => h x (hp.mem_iff.mpr m)⟩
  rw [hall] at h
  walk_at "wx"
  refine forW_map tupD (fun k ρ g2 => g2 = g ∧ ((us.take k).all (shnB book claim rows)) = true ∧ ∃ x4, ρ = [some (cls book), some (cl claim), some (.int ((m : Int) + 1)), some (.ref a), x4]) ⟨rfl, by simp, _, rfl⟩ (fun _ _ _ _ => trivial) ?_ ?_
  · rintro k t hk ρ g2 ⟨rfl, hall, x4, rfl⟩ N hN
    have ht := List.mem_of_getElem? hk
    obtain ⟨tl, tr⟩ := mem_tups.mp (hp.mem_iff.mp ht)
    have hu : ∀ c ∈ thoseL book t, c ∈ book := fun c hc => those_mem tr.2 c hc
    have no : shnB book claim rows t = false → RetOk g2 Q (R.v (D.bl false)) g2 := fun e => by
      have e2 : us.all (shnB book claim rows) = false := by
        rw [List.all_eq_false]; exact ⟨t, ht, by rw [e]; decide⟩
      rw [e2] at h
      exact .same h
    unfold tupD
    walk_at "wx"
    walk_at "stp"; walk_at "wx"
    refine ⟨_, t, .inl ha, rfl, ?_⟩
    rw [look_tabS]
    cases ek : lkS rows t with
    | none =>
      rw [if_pos (by simp)]
      exact no (by unfold shnB; rw [ek])
    | some s =>
      have es : (t, s) ∈ rows := by
        unfold lkS at ek
        obtain ⟨e, he, rfl⟩ := Option.map_eq_some_iff.mp ek
        have h1 : decide (e.1 = t) = true := List.find?_some (p := fun p : List Int × List Bool => decide (p.1 = t)) he
        rw [← of_decide_eq_true h1]; exact List.mem_of_find?_eq_some he
      have s8 := hT.s8 _ es
      rw [if_neg (by simp)]
      walk_at "stp"; walk_at "wx"
      refine ⟨book, _, t, rfl, .inr rfl, by omega, tr.2, ?_⟩
      refine ⟨_, t, bls s, .inl ha, rfl, by rw [look_tabS, ek]; rfl, ?_⟩
      refine ⟨_, thoseL book t, claim, s, rfl, .inr rfl, s8, said _ hc, by simp [thoseL]; omega, fun c hc => said _ (hb c (hu c hc)), ?_⟩
      have eS : shnB book claim rows t = against (thoseL book t) claim s := by unfold shnB against; rw [ek]; dsimp only; rw [failing_nil]
      cases ea : against (thoseL book t) claim s with
      | false =>
        exact no (by rw [eS, ea])
      | true =>
        refine hN _ _ ⟨rfl, ?_, _, rfl⟩
        rw [List.take_succ, hk, List.all_append, hall]
        show (true && ((shnB book claim rows t) && true)) = true
        rw [eS, ea]; rfl
  · rintro ρ g2 ⟨rfl, hall, x4, rfl⟩
    rw [List.take_length] at hall
    rw [hall] at h
    walk_at "wx"
    exact .same h
/-- a row put -/
def putR (rows : List (List Int × List Bool)) (t : List Int) (s : List Bool) : List (List Int × List Bool) := if rows.any (fun r => decide (r.1 = t)) then rows.map fun r => if r.1 = t then (r.1, s) else r else rows ++ [(t, s)]
theorem put_tabS {rows : List (List Int × List Bool)} {t : List Int} {s : List Bool} : putD (tabS rows) (tK t) (bls s) = tabS (putR rows t s) := by
  unfold putD putR tabS
  rw [List.any_map]
  have e : (rows.any ((fun kv => decide (kv.1 = tK t)) ∘ fun p => (tK p.1, bls p.2))) = rows.any fun r => decide (r.1 = t) := by
    congr 1
    funext r
    show decide (tK r.1 = tK t) = decide (r.1 = t)
    by_cases e : r.1 = t
    · rw [decide_eq_true e, decide_eq_true (by rw [e])]
    · rw [decide_eq_false e, decide_eq_false (fun z => e (tK_injY z))]
  rw [e]
  split
  · rw [List.map_map, List.map_map]
    refine List.map_congr_left fun r _ => ?_
    show (if tK r.1 = tK t then _ else _) = _
    by_cases e : r.1 = t
    · rw [if_pos (by rw [e])]; simp [e]
    · rw [if_neg (fun z => e (tK_injY z))]; simp [e]
  · rw [List.map_append]; rfl
theorem putR_keys {rows : List (List Int × List Bool)} {t : List Int} {s : List Bool} : (putR rows t s).map (·.1) = if t ∈ rows.map (·.1) then rows.map (·.1) else rows.map (·.1) ++ [t] := by
  unfold putR
  by_cases h : t ∈ rows.map (·.1)
  · rw [if_pos h]
    obtain ⟨r, hr, e⟩ := List.mem_map.mp h
    rw [if_pos (List.any_eq_true.mpr ⟨r, hr, decide_eq_true e⟩), List.map_map]
    refine List.map_congr_left fun r _ => ?_
    show (if r.1 = t then (r.1, s) else r).1 = r.1
    split <;> rfl
  · rw [if_neg h, if_neg, List.map_append]
    · rfl
    · intro ha
      obtain ⟨r, hr, e⟩ := List.any_eq_true.mp ha
      exact h (List.mem_map.mpr ⟨r, hr, of_decide_eq_true e⟩)
theorem TbOk.put {rows : List (List Int × List Bool)} {t : List Int} {s : List Bool} (h : TbOk rows) (ht : t ∈ uniT) (hs : s.length = 8) (hl : rows.length < 300) : TbOk (putR rows t s) := by
  refine ⟨?_, fun r hr => ?_, fun r hr => ?_, ?_⟩
  · rw [putR_keys]
    split
    · exact h.nd
    · rename_i hn
      exact List.nodup_append.mpr ⟨h.nd, by simp, fun a ha b hb e => by rw [List.mem_singleton.mp hb] at e; exact hn (e ▸ ha)⟩
  · unfold putR at hr
    split at hr
    · obtain ⟨q, hq, rfl⟩ := List.mem_map.mp hr
      split
      · exact h.uni q hq
      · exact h.uni q hq
    · rcases List.mem_append.mp hr with hr | hr
      · exact h.uni r hr
      · rw [List.mem_singleton.mp hr]; exact ht
  · unfold putR at hr
    split at hr
    · obtain ⟨q, hq, rfl⟩ := List.mem_map.mp hr
      split
      · exact hs
      · exact h.s8 q hq
    · rcases List.mem_append.mp hr with hr | hr
      · exact h.s8 r hr
      · rw [List.mem_singleton.mp hr]; exact hs
  · unfold putR
    split
    · rw [List.length_map]; omega
    · rw [List.length_append]; simp; omega
theorem putR_len {rows : List (List Int × List Bool)} {t : List Int} {s : List Bool} : (putR rows t s).length ≤ rows.length + 1 := by
  unfold putR
  split
  · rw [List.length_map]; omega
  · rw [List.length_append]; simp
theorem drop_tabS {rows : List (List Int × List Bool)} {t : List Int} : dropD (tabS rows) (tK t) = tabS (rows.filter fun r => decide (r.1 ≠ t)) := by
  unfold dropD tabS
  rw [List.filter_map]
  congr 1
  refine List.filter_congr fun r _ => ?_
  show decide (tK r.1 ≠ tK t) = _
  by_cases e : r.1 = t
  · rw [e]; simp
  · have : tK r.1 ≠ tK t := fun z => e (tK_injY z)
    simp [e, this]
theorem TbOk.drop {rows : List (List Int × List Bool)} {t : List Int} (h : TbOk rows) : TbOk (rows.filter fun r => decide (r.1 ≠ t)) :=
  ⟨(List.filter_sublist.map _).nodup h.nd, fun r hr => h.uni r (List.mem_filter.mp hr).1, fun r hr => h.s8 r (List.mem_filter.mp hr).1, Nat.le_trans (List.length_filter_le _ _) h.len⟩
theorem TbOk.nil : TbOk [] := ⟨List.nodup_nil, fun _ h => (by cases h), fun _ h => (by cases h), by simp⟩
end G3

/-! T43b: tables drawn -/
namespace G3
open PySem L2
local macro_rules | `(tactic| walk_at "wp") => `(tactic| simp only [wSs, wS, wE, wL, wO, wSq, wRet, wRetN, wAsg, wIf, wDrop, wFor, wPut, wNx, wArgs, wCons, wNil, wCall, wComp, wI, wB, wSeqT, wSeqL, wRng1, wRng2, wEnumL, wEnumT, wVar, wC, wBin, wUn, wNot, wAnd, wOr, wIte, wTest, wTrk, wSlc, wNoPart, wPart, fMt, List.getElem?_cons_succ, List.getElem?_cons_zero, tupOf, lstOf, gdOf, ex_eq, ex_eq', ex2_eq, ex2_eq', Bfn.f, Mth.f, compT, tgB, setAll, wipeD, wYes, List.map_cons, List.map_nil, List.set_cons_succ, List.set_cons_zero, List.length_cons, List.length_nil, Bop.f, Cop.f, Iop.f, fI2, fS2, fIx, fNeg, true_and, and_true, if_true, bodyEnds, R.fz_v, R.fz_tl, atI_0, atI_1, atI_2, atI_3, Option.some.injEq, DO.lst.injEq, decide_eq_true_eq, gup_same, gup_gup, or_false, ixN_s0, ixN_s1, ixN_s2, List.length_set, List.length_map, szl, Nat.reduceAdd, Nat.zero_add, Nat.reduceLeDiff, Nat.zero_le, Int.reduceLE, exists_eq', false_or, fAddT, fAddL, fSl, rolOf, Bool.not_true, Bool.not_false, Bool.false_eq_true, if_false, Bool.false_xor, Bool.xor_true, beq_self_eq_true, isiB_bb, isiB_ll, decide_true, isiB_tt, fIsN, isNon, wTry, wCallv, wRaise, setO, gonO, tryEnds, wMk, wMkAt, wAt, wRaiseAt, isKd, Mth.kd, eq_self, wDis, wDnK, wDnT, wDput, wPar, wRngD, wFld, wMeth, wNew, wSfld, wCh3, wPar3, wRevL, wDputM, wText, fInT, wIng, wSfld2, wDead, wLock, lckE, wLockE, wKeysL, fDIxL, fDmt, Dmt.f])
local macro_rules | `(tactic| walk_at "stp") => `(tactic| first | (rw [wHid_eq]; conv in (wSs _) => arg 1; whnf) | (conv in (wSs _) => arg 1; whnf))
local macro_rules | `(tactic| walk_at "wx") => `(tactic| simp only [wSs, wS, wE, wL, wO, wSq, wRet, wRetN, wAsg, wIf, wDrop, wFor, wPut, wNx, wArgs, wCons, wNil, wCall, wComp, wI, wB, wSeqT, wSeqL, wRng1, wRng2, wEnumL, wEnumT, wVar, wC, wBin, wUn, wNot, wAnd, wOr, wIte, wTest, wTrk, wSlc, wNoPart, wPart, fMt, List.getElem?_cons_succ, List.getElem?_cons_zero, tupOf, lstOf, gdOf, ex_eq, ex_eq', ex2_eq, ex2_eq', Bfn.f, Mth.f, compT, tgB, setAll, wipeD, wYes, List.map_cons, List.map_nil, List.set_cons_succ, List.set_cons_zero, List.length_cons, List.length_nil, Bop.f, Cop.f, Iop.f, fI2, fS2, fIx, fNeg, true_and, and_true, if_true, bodyEnds, R.fz_v, R.fz_tl, atI_0, atI_1, atI_2, atI_3, Option.some.injEq, DO.lst.injEq, decide_eq_true_eq, gup_same, gup_gup, or_false, ixN_s0, ixN_s1, ixN_s2, List.length_set, List.length_map, szl, Nat.reduceAdd, Nat.zero_add, Nat.reduceLeDiff, Nat.zero_le, Int.reduceLE, exists_eq', false_or, fAddT, fAddL, fSl, rolOf, Bool.not_true, Bool.not_false, Bool.false_eq_true, if_false, Bool.false_xor, Bool.xor_true, beq_self_eq_true, isiB_bb, isiB_ll, decide_true, isiB_tt, fIsN, isNon, wTry, wCallv, wRaise, setO, gonO, tryEnds, wMk, wMkAt, wAt, wRaiseAt, isKd, Mth.kd, eq_self, wDis, wDnK, wDnT, wDput, wPar, wRngD, wFld, wMeth, wNew, wSfld, wCh3, wPar3, wRevL, wDputM, wText, fInT, wIng, wSfld2, wDead, wLock, lckE, wLockE, wKeysL, fDIxL, fDmt, Dmt.f, eIn_tI, eIn_lI, eEq_tI, eEq_lI, eEq_tl, eEq_tl', eEq_bl, eEq_tN, eEq_lN, fIsE, Ufn.f, fSSet, fLSet, if_true, if_false, Bool.true_xor, Bool.xor_false, seqOf, fIxA, fSlA, fAddA, fInA, wSeqA, wEnumA, isKd, Mth.kd, fB2, okD_int, okD_bl, okDs_intsN, inD_ints, fRepL, fAddS, fIxS, eEq_int, wCh, fLRng, fRevT, fRow2, fTRng, fLSetT, fMaxD, wStp, fLz, wLockX, wDisE, Tfn.f, fDEq, fDInL, fDIxA])
def HL9 (g g2 : GH) (p : Addr) (o : DO) : Prop := ∀ b u, gup g p o b = some u → g2 b = some u
theorem HL9.here {g g2 : GH} {p : Addr} {o : DO} (h : HL9 g g2 p o) : g2 p = some o := h p o gup_same
theorem HL9.draw {g g2 : GH} {p : Addr} {o o' : DO} (h : HL9 g g2 p o) : HL9 g (gup g2 p o') p o' := fun b u e => by
  by_cases hb : b = p
  · subst hb; rw [gup_same] at e ⊢; exact e
  · rw [gup_ne hb] at e ⊢; exact h b u (by rw [gup_ne hb]; exact e)
theorem HL9.new {g g2 : GH} {p q : Addr} {o x : DO} (h : HL9 g g2 p o) (n : g2 q = none) : HL9 g (gup g2 q x) p o := gle_up h n
theorem HL9.put {g g2 : GH} {p q : Addr} {o x : DO} (h : HL9 g g2 p o) (n : g q = none) (np : q ≠ p) : HL9 g (gup g2 q x) p o := fun b u e => by
  have : b ≠ q := fun z => by subst z; rw [gup_ne np, n] at e; cases e
  rw [gup_ne this]; exact h b u e
theorem HL9.frsh {g g2 : GH} {p q : Addr} {o : DO} (h : HL9 g g2 p o) (n : g2 q = none) : g q = none ∧ q ≠ p := by
  have np : q ≠ p := fun z => by subst z; rw [h.here] at n; cases n
  refine ⟨?_, np⟩
  cases e : g q with
  | none => rfl
  | some u => rw [h q u (by rw [gup_ne np]; exact e)] at n; cases n
def gn9 (g : GH) (r : Addr) : GH := fun b => if b = r then none else g b
theorem gn9_le {g : GH} {r : Addr} : ∀ b u, gn9 g r b = some u → g b = some u := fun b u e => by
  unfold gn9 at e
  split at e
  · cases e
  · exact e
theorem gn9_same {g : GH} {r : Addr} : gn9 g r r = none := if_pos rfl
theorem gn9_ne {g : GH} {r b : Addr} (h : b ≠ r) : gn9 g r b = g b := if_neg h
theorem HL9.gn9 {g g2 : GH} {p r : Addr} {o : DO} (h : HL9 g g2 p o) (n : g r = none) (np : r ≠ p) : HL9 g (gn9 g2 r) p o := fun b u e => by
  have : b ≠ r := fun z => by subst z; rw [gup_ne np, n] at e; cases e
  rw [gn9_ne this]; exact h b u e
/-- dicts by tables, at places of their own -/
def Tbs (g : GH) (as : List Addr) : Prop := ∀ a ∈ as, ∃ rows, g a = some (.dt (tabS rows)) ∧ TbOk rows
def n_law_s_tables : List Str := ["feed", "book", "claim", "every", "many", "table", "numbers", "keys", "one", "found", "less", "more", "turned", "turn", "setting", "other"]
def b_law_s_tables_22 : Sl := .cons (.expr (.mth .append (.var 9) (.cons (.var 15) (.nil)))) (.nil)
def b_law_s_tables_20 : Sl := .cons (.asg (.nm 15) (.tfn .copyT (.cons (.var 5) (.nil)))) (.cons (.dput (.var 15) (.var 8) (.call "_law_ssetting" sp_law_ssetting (.cons (.var 0) (.nil)))) (.part b_law_s_tables_22))
def b_law_s_tables_16 : Sl := .cons (.asg (.nm 12) (.tfn .copyT (.cons (.var 10) (.nil)))) (.cons (.dput (.var 12) (.un .revT (.var 8)) (.idx .da (.var 5) (.var 8))) (.cons (.asg (.nm 9) (.trk (.bin .addL (.var 9) (.lst (.cons (.var 10) (.cons (.var 11) (.cons (.var 12) (.nil)))))))) (.cons (.for_ (.rng1 (.cons (.cst (.int 8)) (.nil))) (.nm 13) (.part b_law_s_tables_20)) (.cons (.ret (.var 9)) (.nil)))))
def b_law_s_tables_14 : Sl := .cons (.ifs (.cmp .gtI (.var 4) (.cst (.int 1))) (.cons (.dput (.var 11) (.tup (.nil)) (.call "_law_ssetting" sp_law_ssetting (.cons (.var 0) (.nil)))) (.nil)) (.nil)) (.part b_law_s_tables_16)
def b_law_s_tables_7 : Sl := .cons (.asg (.nm 9) (.trk (.lst (.cons (.var 5) (.cons (.dnT) (.nil)))))) (.cons (.asg (.nm 10) (.tfn .copyT (.cons (.var 5) (.nil)))) (.cons (.expr (.dmt .pop1 (.var 10) (.cons (.var 8) (.nil)))) (.cons (.asg (.nm 11) (.tfn .copyT (.cons (.var 5) (.nil)))) (.cons (.dput (.var 11) (.bin .addT (.var 8) (.var 8)) (.idx .da (.var 5) (.var 8))) (.cons (.dput (.var 11) (.tup (.cons (.neg (.cst (.int 1))) (.nil))) (.idx .da (.var 5) (.var 8))) (.cons (.dput (.var 11) (.trng (.cons (.var 4) (.nil))) (.idx .l (.lst (.cons (.bin .repT (.tup (.cons (.cst (.bl true)) (.nil))) (.cst (.int 8))) (.cons (.call "_law_ssetting" sp_law_ssetting (.cons (.var 0) (.nil))) (.nil)))) (.call "_law_sdraw" sp_law_sdraw (.cons (.var 0) (.cons (.cst (.int 2)) (.nil)))))) (.part b_law_s_tables_14)))))))
def b_law_s_tables_5 : Sl := .cons (.asg (.nm 7) (.blf .sortedT (.cons (.var 5) (.nil)))) (.cons (.asg (.nm 8) (.idx .l (.var 7) (.call "_law_sdraw" sp_law_sdraw (.cons (.var 0) (.cons (.blf .len (.cons (.var 7) (.nil))) (.nil)))))) (.part b_law_s_tables_7))
def b_law_s_tables_4 : Sl := .cons (.dput (.var 5) (.var 6) (.idx .l (.lst (.cons (.var 14) (.cons (.bin .repT (.tup (.cons (.cst (.bl false)) (.nil))) (.cst (.int 8))) (.nil)))) (.blf .intB (.cons (.cmp .isN (.var 14) (.cst .non)) (.nil))))) (.nil)
def b_law_s_tables_3 : Sl := .cons (.asg (.nm 14) (.call "_law_sagainst" sp_law_sagainst (.cons (.call "_law_sthose" sp_law_sthose (.cons (.var 1) (.cons (.var 6) (.nil)))) (.cons (.var 2) (.cons (.var 3) (.nil)))))) (.part b_law_s_tables_4)
def b_law_s_tables : Sl := .cons (.asg (.nm 5) (.dnT)) (.cons (.for_ (.seqL (.call "_law_s_tuples" sp_law_s_tuples (.cons (.blf .len (.cons (.var 1) (.nil))) (.cons (.bin .subI (.var 4) (.cst (.int 1))) (.nil))))) (.nm 6) (.part b_law_s_tables_3)) (.part b_law_s_tables_5))
def sp_law_s_tables : GSp := fun ds g Q _ => ∃ (p : Addr) (o : DO) (n : Int) (book : List (List Int)) (claim every : List Int) (m : Nat), ds = [.ref p, cls book, cl claim, .lst (every.map .int), .int ((m : Int) + 1)] ∧ g p = some o ∧ FeedO o n ∧ 0 ≤ n ∧ n ≤ 2 ^ 58 ∧
  CaseOk book claim every ∧ book.length ≤ 10 ∧ m + 1 ≤ book.length ∧
  ∀ (as : List Addr) (o' : DO) (g' : GH), Tbs g' as → as.length ≤ 13 → (∀ a ∈ as, a ≠ p) → FeedO o' (n + 200) → (∀ b u, gup g p o' b = some u → g' b = some u) → Q (.tl (as.map .ref)) g'
theorem w_law_s_tables : ∀ ds g Q W, sp_law_s_tables ds g Q W → wSs b_law_s_tables (bodyEnds g Q W) (startD 16 ds) g := by
  rintro ds g Q W ⟨p, o, n, book, claim, every, m, rfl, hp, hf, hn0, hn1, hC, hl, hm, h⟩
  change wSs _ _ [some _, some _, some _, some _, some _, none, none, none, none, none, none, none, none, none, none, none] g
  obtain ⟨hb1, hb2, hb8, hc8, he8, he, hall⟩ := id hC
  walk_at "stp"; walk_at "wx"
  intro t ht
  have tp : t ≠ p := fun e => by rw [e, hp] at ht; cases ht
  refine ⟨book.length, m, by rw [show (m : Int) + 1 - 1 = (m : Int) by omega], hl, by omega, by omega, fun us hpm hs => ?_⟩
  have hpm : us.Perm (tupsF book.length m) := by
    have := hpm
    unfold tupsI at this
    rwa [if_neg (by omega), Int.toNat_natCast] at this
  have hul : us.length ≤ 252 := by rw [hpm.length_eq]; exact tups_len hl (by omega)
  have hri : ∀ u ∈ us, u.length = m ∧ RisT book.length u := fun u hu => mem_tups.mp (hpm.mem_iff.mp hu)
  have hund : us.Nodup := hpm.nodup_iff.mpr (tups_nodup m)
  walk_at "wx"
  refine forW_map tupD (fun k ρ g2 => ∃ (rows : List (List Int × List Bool)) (x6 x14 : Option D), g2 = gup g t (.dt (tabS rows)) ∧ TbOk rows ∧ rows.map (·.1) = us.take k ∧
    ρ = [some (.ref p), some (cls book), some (cl claim), some (.lst (every.map .int)), some (.int ((m : Int) + 1)), some (.ref t), x6, none, none, none, none, none, none, none, x14, none]) ⟨[], none, none, rfl, .nil, rfl, rfl⟩ (fun _ _ _ _ => trivial) ?_ ?_
  · rintro k u hk ρ g2 ⟨rows, x6, x14, rfl, hT, hk2, rfl⟩ N hN
    have hu := List.mem_of_getElem? hk
    obtain ⟨ul, ur⟩ := hri u hu
    have huc : ∀ c ∈ thoseL book u, c ∈ book := fun c hc => those_mem ur.2 c hc
    have sd : Said (thoseL book u ++ [claim]) := said_of (fun z hz => by
      rcases List.mem_append.mp hz with hz | hz
      · exact hb8 z (huc z hz)
      · rw [List.mem_singleton.mp hz]; exact hc8) (by simp [thoseL]; omega)
    have hkl := (List.getElem?_eq_some_iff.mp hk).1
    have rl : rows.length = k := by have := congrArg List.length hk2; rw [List.length_map, List.length_take] at this; omega
    have fin : ∀ (s : List Bool) (x6 x14 : Option D), s.length = 8 → N [some (.ref p), some (cls book), some (cl claim), some (.lst (every.map .int)), some (.int ((m : Int) + 1)), some (.ref t), x6, none, none, none, none, none, none, none, x14, none] (gup g t (.dt (putD (tabS rows) (tK u) (bls s)))) := fun s x6 x14 s8 => by
      rw [put_tabS]
      refine hN _ _ ⟨putR rows u s, _, _, rfl, hT.put (uni_ris hl ur) s8 (by omega), ?_, rfl⟩
      rw [putR_keys, hk2, if_neg, List.take_succ, hk]; rfl
      intro hm2
      obtain ⟨i, hi⟩ := List.mem_iff_getElem?.mp hm2
      rw [List.getElem?_take] at hi
      split at hi
      · rename_i hij
        obtain ⟨a1, a2⟩ := List.getElem?_eq_some_iff.mp hi
        obtain ⟨b1, b2⟩ := List.getElem?_eq_some_iff.mp hk
        exact List.pairwise_iff_getElem.mp hund i k a1 b1 hij (a2.trans b2.symm)
      · cases hi
    unfold tupD
    walk_at "wx"
    walk_at "stp"; walk_at "wx"
    refine ⟨book, _, u, rfl, .inr rfl, by omega, ur.2, ?_⟩
    refine ⟨_, thoseL book u, claim, every, rfl, .inr rfl, he8, he, sd, ?_⟩
    walk_at "wx"
    walk_at "stp"; walk_at "wx"
    refine ⟨[.bl false], rfl, by simp, by decide, by decide, by decide, ?_⟩
    have e8 : D.tup (List.replicate (Int.toNat 8) [D.bl false]).flatten = bls (List.replicate 8 false) := rfl
    rw [e8]
    have hkl2 : (tabS rows).length < 16777216 := by unfold tabS; rw [List.length_map]; omega
    cases ef : (allOf false every).find? (against (thoseL book u) claim) with
    | none =>
      refine ⟨bls (List.replicate 8 false), rfl, .inr ⟨_, u, gup_same, rfl, hkl2, ?_⟩⟩
      rw [gup_gup]
      exact fin _ _ _ (by decide)
    | some s =>
      have s8 : s.length = 8 := ((doubled_mem false every he s).mp (List.mem_of_find?_eq_some ef)).1
      refine ⟨bls s, rfl, .inr ⟨_, u, gup_same, rfl, hkl2, ?_⟩⟩
      rw [gup_gup]
      exact fin _ _ _ s8
  · rintro ρ g2 ⟨rows, x6, x14, rfl, hT, hk2, rfl⟩
    rw [List.take_length] at hk2
    have rl : rows.length = us.length := by have := congrArg List.length hk2; rwa [List.length_map] at this
    walk_at "stp"; walk_at "wx"
    refine ⟨us, .inr ⟨t, _, rfl, gup_same, by rw [tbr_keys, hk2]⟩, fun h2 u hu e => ?_, fun us2 hp2 hs2 => ?_⟩
    · have := (hri u hu).1
      rw [e] at this
      have h0 : m = 0 := this.symm
      rw [hpm.length_eq, h0] at h2
      simp [tupsF] at h2
    obtain rfl := lex_uniq hp2 hs2 hs
    have hpos : 1 ≤ us2.length := by
      have : rngI m ∈ us2 := hpm.mem_iff.mpr (mem_tups.mpr ⟨rngI_len m, (mem_tups.mp (rngI_ris (n := m))).2.1, fun z hz => by have := rngI_mem.mp hz; omega⟩)
      exact List.length_pos_of_mem this
    have X0 : HL9 g (gup g t (DO.dt (tabS rows))) p o := fun b u e => by
      by_cases hb : b = p
      · subst hb; rw [gup_same] at e; rw [gup_ne tp.symm, hp]; exact e
      · rw [gup_ne hb] at e; exact gle_up gle_rfl ht b u e
    refine ⟨p, o, n, us2.length, rfl, X0.here, hf, by omega, by omega, by omega, fun d o1 hd0 hd1 hf1 => ?_⟩
    walk_at "wx"
    obtain ⟨u, mu, -, eu⟩ := atI_map tupD (xs := us2) hd0 hd1
    obtain ⟨ul, ur⟩ := hri u mu
    have X1 := X0.draw (o' := o1)
    have Gt : gup (gup g t (DO.dt (tabS rows))) p o1 t = some (.dt (tabS rows)) := by rw [gup_ne tp, gup_same]
    generalize gup (gup g t (DO.dt (tabS rows))) p o1 = G1 at *
    refine ⟨tupD u, eu, ?_⟩
    unfold tupD
    have hlook : ∃ s1 : List Bool, lookD (tabS rows) (tK u) = some (bls s1) ∧ s1.length = 8 := by
      have : u ∈ rows.map (·.1) := by rw [hk2]; exact mu
      rw [look_tabS]
      cases e : lkS rows u with
      | none =>
        unfold lkS at e
        rw [Option.map_eq_none_iff, List.find?_eq_none] at e
        obtain ⟨r, hr, e2⟩ := List.mem_map.mp this
        exact absurd (decide_eq_true e2) (e r hr)
      | some s1 =>
        refine ⟨s1, rfl, ?_⟩
        unfold lkS at e
        obtain ⟨r, hr, rfl⟩ := Option.map_eq_some_iff.mp e
        exact hT.s8 _ (List.mem_of_find?_eq_some hr)
    obtain ⟨s1, hl1, hs1⟩ := hlook
    walk_at "stp"; walk_at "wx"
    intro e1 he1 f hf0
    obtain ⟨ge, ep⟩ := X1.frsh he1
    have X2 := X1.new (x := .dt []) he1
    obtain ⟨gf, fp⟩ := X2.frsh hf0
    have X3 := X2.new (x := .lst [.ref t, .ref e1]) hf0
    have te : t ≠ e1 := fun z => by rw [← z, Gt] at he1; cases he1
    have tf : t ≠ f := fun z => by rw [← z, gup_ne te, Gt] at hf0; cases hf0
    have ef2 : e1 ≠ f := fun z => by rw [← z, gup_same] at hf0; cases hf0
    have Gt3 : gup (gup G1 e1 (.dt [])) f (.lst [.ref t, .ref e1]) t = some (.dt (tabS rows)) := by rw [gup_ne tf, gup_ne te]; exact Gt
    have Ge3 : gup (gup G1 e1 (.dt [])) f (.lst [.ref t, .ref e1]) e1 = some (.dt (tabS [])) := by rw [gup_ne ef2, gup_same]; rfl
    have Gf3 : gup (gup G1 e1 (.dt [])) f (.lst [.ref t, .ref e1]) f = some (.lst [.ref t, .ref e1]) := gup_same
    generalize gup (gup G1 e1 (.dt [])) f (.lst [.ref t, .ref e1]) = G3_ at *
    clear X1 X2 he1 hf0 Gt
    refine ⟨_, .inl Gt3, hT.apart, fun le hle => ⟨le, rfl, ⟨_, gup_same⟩, _, gup_same, u, _, rfl, hl1, ?_⟩⟩
    rw [gup_gup, drop_tabS]
    obtain ⟨gl, lp⟩ := X3.frsh hle
    have X4 := X3.new (x := .dt (tabS (rows.filter fun r => decide (r.1 ≠ u)))) hle
    have tl2 : t ≠ le := fun z => by rw [← z, Gt3] at hle; cases hle
    have el : e1 ≠ le := fun z => by rw [← z, Ge3] at hle; cases hle
    have fl : f ≠ le := fun z => by rw [← z, Gf3] at hle; cases hle
    have Gt4 : gup G3_ le (.dt (tabS (rows.filter fun r => decide (r.1 ≠ u)))) t = some (.dt (tabS rows)) := by rw [gup_ne tl2]; exact Gt3
    have Ge4 : gup G3_ le (.dt (tabS (rows.filter fun r => decide (r.1 ≠ u)))) e1 = some (.dt (tabS [])) := by rw [gup_ne el]; exact Ge3
    have Gf4 : gup G3_ le (.dt (tabS (rows.filter fun r => decide (r.1 ≠ u)))) f = some (.lst [.ref t, .ref e1]) := by rw [gup_ne fl]; exact Gf3
    have Gl4 : gup G3_ le (.dt (tabS (rows.filter fun r => decide (r.1 ≠ u)))) le = some (.dt (tabS (rows.filter fun r => decide (r.1 ≠ u)))) := gup_same
    generalize gup G3_ le (.dt (tabS (rows.filter fun r => decide (r.1 ≠ u)))) = G4 at *
    clear X3 Gt3 Ge3 Gf3 hle
    have hTl : TbOk (rows.filter fun r => decide (r.1 ≠ u)) := hT.drop
    have lfl := List.length_filter_le (fun r : List Int × List Bool => decide (r.1 ≠ u)) rows
    refine ⟨_, .inl Gt4, hT.apart, fun mo hmo => ?_⟩
    obtain ⟨gm, mp⟩ := X4.frsh hmo
    have tm : t ≠ mo := fun z => by rw [← z, Gt4] at hmo; cases hmo
    have em : e1 ≠ mo := fun z => by rw [← z, Ge4] at hmo; cases hmo
    have fm : f ≠ mo := fun z => by rw [← z, Gf4] at hmo; cases hmo
    have lm : le ≠ mo := fun z => by rw [← z, Gl4] at hmo; cases hmo
    have at_t : ∀ x, dtAt (gup G4 mo x) t (tabS rows) := fun x => .inl (by rw [gup_ne tm]; exact Gt4)
    have tsl : ∀ rs : List (List Int × List Bool), rs.length < 290 → (tabS rs).length < 16777216 := fun rs h => by unfold tabS; rw [List.length_map]; omega
    refine ⟨_, u, _, at_t _, rfl, hl1, by omega, .inr ⟨_, u ++ u, rfl, by rw [List.map_append], tsl rows (by omega), ?_⟩⟩
    try rw [gup_gup]
    rw [put_tabS]
    have hT1 : TbOk (putR rows (u ++ u) s1) := hT.put (by
      by_cases hu0 : u = []
      · subst hu0; exact uni_ris hl ur
      · exact uni_two hl ur hu0) hs1 (by omega)
    have l1 := putR_len (rows := rows) (t := u ++ u) (s := s1)
    generalize putR rows (u ++ u) s1 = m1 at *
    refine ⟨_, u, _, at_t _, rfl, hl1, .inr ⟨_, [-1], rfl, rfl, tsl m1 (by omega), ?_⟩⟩
    try rw [gup_gup]
    rw [put_tabS]
    have hT2 : TbOk (putR m1 [-1] s1) := hT1.put uni_neg hs1 (by omega)
    have l2 := putR_len (rows := m1) (t := [-1]) (s := s1)
    generalize putR m1 [-1] s1 = m2 at *
    have X5 := X4.new (x := .dt (tabS m2)) hmo
    have Gt5 : gup G4 mo (.dt (tabS m2)) t = some (.dt (tabS rows)) := by rw [gup_ne tm]; exact Gt4
    have Ge5 : gup G4 mo (.dt (tabS m2)) e1 = some (.dt (tabS [])) := by rw [gup_ne em]; exact Ge4
    have Gf5 : gup G4 mo (.dt (tabS m2)) f = some (.lst [.ref t, .ref e1]) := by rw [gup_ne fm]; exact Gf4
    have Gl5 : gup G4 mo (.dt (tabS m2)) le = some (.dt (tabS (rows.filter fun r => decide (r.1 ≠ u)))) := by rw [gup_ne lm]; exact Gl4
    have Gm5 : gup G4 mo (.dt (tabS m2)) mo = some (.dt (tabS m2)) := gup_same
    generalize gup G4 mo (.dt (tabS m2)) = G5 at *
    clear X4 Gt4 Ge4 Gf4 Gl4 hmo at_t
    refine ⟨[.bl true], rfl, by simp, by decide, by decide, by decide, ?_⟩
    rw [show D.tup (List.replicate (Int.toNat 8) [D.bl true]).flatten = bls (List.replicate 8 true) from rfl]
    refine ⟨p, o1, _, rfl, X5.here, hf1, by omega, fun s2 o2 hs2' hf2 => ?_⟩
    have X6 := X5.draw (o' := o2)
    walk_at "wx"
    refine ⟨p, o2, _, 2, rfl, gup_same, hf2, by omega, by omega, by omega, fun w o3 hw0 hw1 hf3 => ?_⟩
    have X7 := X6.draw (o' := o3)
    rw [gup_gup] at X7 ⊢
    have nep : t ≠ p ∧ e1 ≠ p ∧ f ≠ p ∧ le ≠ p ∧ mo ≠ p := ⟨tp, ep, fp, lp, mp⟩
    have Gt7 : gup G5 p o3 t = some (.dt (tabS rows)) := by rw [gup_ne tp]; exact Gt5
    have Ge7 : gup G5 p o3 e1 = some (.dt (tabS [])) := by rw [gup_ne ep]; exact Ge5
    have Gf7 : gup G5 p o3 f = some (.lst [.ref t, .ref e1]) := by rw [gup_ne fp]; exact Gf5
    have Gl7 : gup G5 p o3 le = some (.dt (tabS (rows.filter fun r => decide (r.1 ≠ u)))) := by rw [gup_ne lp]; exact Gl5
    have Gm7 : gup G5 p o3 mo = some (.dt (tabS m2)) := by rw [gup_ne mp]; exact Gm5
    generalize gup G5 p o3 = G7 at *
    clear X5 X6 Gt5 Ge5 Gf5 Gl5 Gm5
    have hpick : ∃ s3 : List Bool, L2.atI [bls (List.replicate 8 true), bls s2] w = some (bls s3) ∧ s3.length = 8 := by
      obtain rfl | rfl : w = 0 ∨ w = 1 := by omega
      · exact ⟨_, rfl, by decide⟩
      · exact ⟨_, rfl, hs2'⟩
    obtain ⟨s3, hp3, hs3⟩ := hpick
    refine ⟨_, hp3, ?_⟩
    have s16 : ∀ (mr : List (List Int × List Bool)) (o' : DO) (G : GH), TbOk mr → HL9 g G p o' → FeedO o' (n + 30) → G t = some (.dt (tabS rows)) → G e1 = some (.dt (tabS [])) → G f = some (.lst [.ref t, .ref e1]) → G le = some (.dt (tabS (rows.filter fun r => decide (r.1 ≠ u)))) → G mo = some (.dt (tabS mr)) →
        wHid (wSs b_law_s_tables_16) { nx := fun x g' => RetOk g Q (R.v D.non) g', rt := RetOk g Q, ct := fun x x_1 => False, ex := XRet W }
          [some (.ref p), some (cls book), some (cl claim), some (.lst (every.map .int)), some (.int ((m : Int) + 1)), some (.ref t), x6, some (.lst (us2.map fun t => D.tup (t.map .int))), some (.tup (u.map .int)), some (.ref f), some (.ref le), some (.ref mo), none, none, x14, none] G := by
      intro mr o' G hTm X hf9 Gt Ge Gf Gl Gm
      walk_at "stp"; walk_at "wx"
      refine ⟨_, .inl Gl, hTl.apart, fun tu htu => ?_⟩
      obtain ⟨gtu, tup⟩ := X.frsh htu
      have ttu : t ≠ tu := fun z => by rw [← z, Gt] at htu; cases htu
      have etu : e1 ≠ tu := fun z => by rw [← z, Ge] at htu; cases htu
      have ftu : f ≠ tu := fun z => by rw [← z, Gf] at htu; cases htu
      have ltu : le ≠ tu := fun z => by rw [← z, Gl] at htu; cases htu
      have mtu : mo ≠ tu := fun z => by rw [← z, Gm] at htu; cases htu
      refine ⟨_, u, _, .inl (by rw [gup_ne ttu]; exact Gt), rfl, hl1, .inr ⟨_, u.reverse, rfl, by rw [List.map_reverse], tsl _ (by omega), _, _, (by rw [gup_ne ftu]; exact Gf), rfl, (by simp), fun f2 hf2 => ⟨by decide, by decide, ?_⟩⟩⟩
      rw [put_tabS] at hf2 ⊢
      have hTt : TbOk (putR (rows.filter fun r => decide (r.1 ≠ u)) u.reverse s1) := hTl.put (uni_rev hl ur) hs1 (by omega)
      generalize putR (rows.filter fun r => decide (r.1 ≠ u)) u.reverse s1 = tr at *
      have X2 := X.new (x := .dt (tabS tr)) htu
      obtain ⟨gf2, f2p⟩ := X2.frsh hf2
      have X3 := X2.new (x := .lst ([.ref t, .ref e1] ++ [.ref le, .ref mo, .ref tu])) hf2
      have ne2 : ∀ b o, gup G tu (.dt (tabS tr)) b = some o → b ≠ f2 := fun b o e z => by rw [← z, e] at hf2; cases hf2
      have k2 : ∀ b o, gup G tu (.dt (tabS tr)) b = some o → gup (gup G tu (.dt (tabS tr))) f2 (.lst ([.ref t, .ref e1] ++ [.ref le, .ref mo, .ref tu])) b = some o := fun b o e => by rw [gup_ne (ne2 b o e)]; exact e
      have At : gup G tu (.dt (tabS tr)) t = some (.dt (tabS rows)) := by rw [gup_ne ttu]; exact Gt
      have Ae : gup G tu (.dt (tabS tr)) e1 = some (.dt (tabS [])) := by rw [gup_ne etu]; exact Ge
      have Al : gup G tu (.dt (tabS tr)) le = some (.dt (tabS (rows.filter fun r => decide (r.1 ≠ u)))) := by rw [gup_ne ltu]; exact Gl
      have Am : gup G tu (.dt (tabS tr)) mo = some (.dt (tabS mr)) := by rw [gup_ne mtu]; exact Gm
      have five : ∀ a ∈ [t, e1, le, mo, tu], a ≠ p ∧ a ≠ f2 ∧ ∃ rs, gup (gup G tu (.dt (tabS tr))) f2 (.lst ([.ref t, .ref e1] ++ [.ref le, .ref mo, .ref tu])) a = some (.dt (tabS rs)) ∧ TbOk rs := fun a ha => by
        simp only [List.mem_cons, List.not_mem_nil, or_false] at ha
        rcases ha with rfl | rfl | rfl | rfl | rfl
        · exact ⟨tp, ne2 _ _ At, rows, k2 _ _ At, hT⟩
        · exact ⟨ep, ne2 _ _ Ae, [], k2 _ _ Ae, .nil⟩
        · exact ⟨lp, ne2 _ _ Al, _, k2 _ _ Al, hTl⟩
        · exact ⟨mp, ne2 _ _ Am, mr, k2 _ _ Am, hTm⟩
        · exact ⟨tup, ne2 _ _ gup_same, tr, k2 _ _ gup_same, hTt⟩
      have Gt9 := k2 _ _ At
      have Gf9 : gup (gup G tu (.dt (tabS tr))) f2 (.lst ([.ref t, .ref e1] ++ [.ref le, .ref mo, .ref tu])) f2 = some (.lst ([t, e1, le, mo, tu].map D.ref)) := gup_same
      generalize gup (gup G tu (.dt (tabS tr))) f2 (.lst ([.ref t, .ref e1] ++ [.ref le, .ref mo, .ref tu])) = G9 at *
      refine forW_rng (fun k ρ G => ∃ (as : List Addr) (o : DO) (x13 x15 : Option D), HL9 g G p o ∧ FeedO o (n + 30 + 8 * k) ∧ k ≤ 8 ∧ G f2 = some (.lst (as.map .ref)) ∧ G t = some (.dt (tabS rows)) ∧ (∀ a ∈ as, a ≠ p ∧ a ≠ f2 ∧ ∃ rs, G a = some (.dt (tabS rs)) ∧ TbOk rs) ∧ as.length = 5 + k ∧
        ρ = [some (.ref p), some (cls book), some (cl claim), some (.lst (every.map .int)), some (.int ((m : Int) + 1)), some (.ref t), x6, some (.lst (us2.map fun t => D.tup (t.map .int))), some (.tup (u.map .int)), some (.ref f2), some (.ref le), some (.ref mo), some (.ref tu), x13, x14, x15])
        ⟨[t, e1, le, mo, tu], o', none, none, X3, by simpa using hf9, by decide, Gf9, Gt9, five, rfl, rfl⟩ ?_ ?_
      · rintro k hk ρ G ⟨as, o2, x13, x15, X, hf2', hk8, Gf, Gt, has, hasl, rfl⟩ N hN
        have hk7 : k < 8 := hk
        walk_at "wx"
        walk_at "stp"; walk_at "wx"
        refine ⟨_, .inl Gt, hT.apart, fun q hq => ?_⟩
        obtain ⟨gq, qp⟩ := X.frsh hq
        have tq : t ≠ q := fun z => by rw [← z, Gt] at hq; cases hq
        have fq : f2 ≠ q := fun z => by rw [← z, Gf] at hq; cases hq
        have X2 := X.new (x := .dt (tabS rows)) hq
        refine ⟨p, o2, _, rfl, X2.here, hf2', by omega, fun s5 o5 hs5 hf5 => ?_⟩
        walk_at "wx"
        refine .inr ⟨_, u, by rw [gup_ne qp, gup_same], rfl, tsl rows (by omega), ?_⟩
        rw [put_tabS]
        have hTo : TbOk (putR rows u s5) := hT.put (uni_ris hl ur) hs5 (by omega)
        have X3 := (X2.draw (o' := o5)).put (x := .dt (tabS (putR rows u s5))) gq qp
        have keep : ∀ b o, b ≠ p → b ≠ q → G b = some o → gup (gup (gup G q (.dt (tabS rows))) p o5) q (.dt (tabS (putR rows u s5))) b = some o := fun b o h1 h2 e => by rw [gup_ne h2, gup_ne h1, gup_ne h2]; exact e
        have Gq : gup (gup (gup G q (.dt (tabS rows))) p o5) q (.dt (tabS (putR rows u s5))) q = some (.dt (tabS (putR rows u s5))) := gup_same
        have Gf2 := keep f2 _ f2p fq Gf
        have Gt2 := keep t _ tp tq Gt
        have has2 : ∀ a ∈ as, a ≠ q := fun a ha z => by
          obtain ⟨-, -, rs, e, -⟩ := has a ha
          rw [z, hq] at e; cases e
        have has3 : ∀ a ∈ as, a ≠ p ∧ a ≠ f2 ∧ ∃ rs, gup (gup (gup G q (.dt (tabS rows))) p o5) q (.dt (tabS (putR rows u s5))) a = some (.dt (tabS rs)) ∧ TbOk rs := fun a ha => by
          obtain ⟨n1, n2, rs, e, r⟩ := has a ha
          exact ⟨n1, n2, rs, keep a _ n1 (has2 a ha) e, r⟩
        generalize gup (gup (gup G q (.dt (tabS rows))) p o5) q (.dt (tabS (putR rows u s5))) = H5 at *
        walk_at "stp"; simp (maxSteps := 2000000) only [Gf2, exists_eq_left', wSs, wS, wE, wL, wO, wSq, wRet, wRetN, wAsg, wIf, wDrop, wFor, wPut, wNx, wArgs, wCons, wNil, wCall, wComp, wI, wB, wSeqT, wSeqL, wRng1, wRng2, wEnumL, wEnumT, wVar, wC, wBin, wUn, wNot, wAnd, wOr, wIte, wTest, wTrk, wSlc, wNoPart, wPart, fMt, List.getElem?_cons_succ, List.getElem?_cons_zero, tupOf, lstOf, gdOf, ex_eq, ex_eq', ex2_eq, ex2_eq', Bfn.f, Mth.f, compT, tgB, setAll, wipeD, wYes, List.map_cons, List.map_nil, List.set_cons_succ, List.set_cons_zero, List.length_cons, List.length_nil, Bop.f, Cop.f, Iop.f, fI2, fS2, fIx, fNeg, true_and, and_true, if_true, bodyEnds, R.fz_v, R.fz_tl, atI_0, atI_1, atI_2, atI_3, Option.some.injEq, DO.lst.injEq, decide_eq_true_eq, gup_same, gup_gup, or_false, ixN_s0, ixN_s1, ixN_s2, List.length_set, List.length_map, szl, Nat.reduceAdd, Nat.zero_add, Nat.reduceLeDiff, Nat.zero_le, Int.reduceLE, exists_eq', false_or, fAddT, fAddL, fSl, rolOf, Bool.not_true, Bool.not_false, Bool.false_eq_true, if_false, Bool.false_xor, Bool.xor_true, beq_self_eq_true, isiB_bb, isiB_ll, decide_true, isiB_tt, fIsN, isNon, wTry, wCallv, wRaise, setO, gonO, tryEnds, wMk, wMkAt, wAt, wRaiseAt, isKd, Mth.kd, eq_self, wDis, wDnK, wDnT, wDput, wPar, wRngD, wFld, wMeth, wNew, wSfld, wCh3, wPar3, wRevL, wDputM, wText, fInT, wIng, wSfld2, wDead, wLock, lckE, wLockE, wKeysL, fDIxL, fDmt, Dmt.f, eIn_tI, eIn_lI, eEq_tI, eEq_lI, eEq_tl, eEq_tl', eEq_bl, eEq_tN, eEq_lN, fIsE, Ufn.f, fSSet, fLSet, if_true, if_false, Bool.true_xor, Bool.xor_false, seqOf, fIxA, fSlA, fAddA, fInA, wSeqA, wEnumA, isKd, Mth.kd, fB2, okD_int, okD_bl, okDs_intsN, inD_ints, fRepL, fAddS, fIxS, eEq_int, wCh, fLRng, fRevT, fRow2, fTRng, fLSetT, fMaxD, wStp, fLz, wLockX, wDisE, Tfn.f, fDEq, fDInL, fDIxA]
        refine ⟨by rw [hasl]; omega, hN _ _ ⟨as ++ [q], o5, _, _, X3.put gf2 f2p, hf5.up (by omega), by omega, by rw [gup_same, List.map_append]; rfl, by rw [gup_ne (fun z => by rw [z, Gf2] at Gt2; cases Gt2)]; exact Gt2, fun a ha => ?_, by rw [List.length_append, hasl]; simp only [List.length_cons, List.length_nil]; omega, rfl⟩⟩
        rcases List.mem_append.mp ha with ha | ha
        · obtain ⟨n1, n2, rs, e, r⟩ := has3 a ha
          exact ⟨n1, n2, rs, by rw [gup_ne n2]; exact e, r⟩
        · rw [List.mem_singleton.mp ha]
          exact ⟨qp, fq.symm, _, by rw [gup_ne fq.symm]; exact Gq, hTo⟩
      · rintro ρ G ⟨as, o2, x13, x15, X, hf2', hk8, Gf, Gt, has, hasl, rfl⟩
        have hasl : as.length = 13 := hasl
        refine RetOk.tl Gf gf2 gn9_same gn9_le (h as o2 (gn9 G f2) (fun a ha => ?_) (by omega) (fun a ha => (has a ha).1) (hf2'.up (by show n + 30 + 8 * ((8 : Nat) : Int) ≤ _; omega)) (X.gn9 gf2 f2p))
        obtain ⟨n1, n2, rs, e, r⟩ := has a ha
        exact ⟨rs, by rw [gn9_ne n2]; exact e, r⟩
    refine ⟨RgOk.of_le (by decide) (by omega) (by decide) (by omega), .inr ⟨_, rngI (m + 1), Gm7, by rw [show ((m : Int) + 1).toNat = m + 1 by omega, rngD_ints], tsl m2 (by omega), ?_⟩⟩
    rw [put_tabS]
    have hT3 : TbOk (putR m2 (rngI (m + 1)) s3) := hT2.put (uni_ris (c := m + 1) (by omega) (mem_tups.mp (rngI_ris (n := m + 1))).2) hs3 (by omega)
    have l3 := putR_len (rows := m2) (t := rngI (m + 1)) (s := s3)
    generalize putR m2 (rngI (m + 1)) s3 = m3 at *
    have X8 := X7.put (x := .dt (tabS m3)) gm mp
    have Gt8 : gup G7 mo (.dt (tabS m3)) t = some (.dt (tabS rows)) := by rw [gup_ne tm]; exact Gt7
    have Ge8 : gup G7 mo (.dt (tabS m3)) e1 = some (.dt (tabS [])) := by rw [gup_ne em]; exact Ge7
    have Gf8 : gup G7 mo (.dt (tabS m3)) f = some (.lst [.ref t, .ref e1]) := by rw [gup_ne fm]; exact Gf7
    have Gl8 : gup G7 mo (.dt (tabS m3)) le = some (.dt (tabS (rows.filter fun r => decide (r.1 ≠ u)))) := by rw [gup_ne lm]; exact Gl7
    have Gm8 : gup G7 mo (.dt (tabS m3)) mo = some (.dt (tabS m3)) := gup_same
    generalize gup G7 mo (.dt (tabS m3)) = G8 at *
    walk_at "stp"; walk_at "wx"
    split
    · refine ⟨p, o3, _, rfl, X8.here, hf3, by omega, fun s4 o4 hs4 hf4 => ?_⟩
      walk_at "wx"
      refine .inr ⟨_, [], by rw [gup_ne mp]; exact Gm8, rfl, tsl m3 (by omega), ?_⟩
      rw [put_tabS]
      exact s16 (putR m3 [] s4) o4 _ (hT3.put (uni_ris (c := 0) (by decide) ⟨.nil, by simp⟩) hs4 (by omega)) (X8.draw.put gm mp) (hf4.up (by omega)) (by rw [gup_ne tm, gup_ne tp]; exact Gt8) (by rw [gup_ne em, gup_ne ep]; exact Ge8) (by rw [gup_ne fm, gup_ne fp]; exact Gf8) (by rw [gup_ne lm, gup_ne lp]; exact Gl8) gup_same
    · exact s16 m3 o3 G8 hT3 X8 (hf3.up (by omega)) Gt8 Ge8 Gf8 Gl8 Gm8
end G3

/-! DT1: dicts by tuples shown -/
namespace G3
open PySem L2
local macro_rules | `(tactic| walk_at "wp") => `(tactic| simp only [wSs, wS, wE, wL, wO, wSq, wRet, wRetN, wAsg, wIf, wDrop, wFor, wPut, wNx, wArgs, wCons, wNil, wCall, wComp, wI, wB, wSeqT, wSeqL, wRng1, wRng2, wEnumL, wEnumT, wVar, wC, wBin, wUn, wNot, wAnd, wOr, wIte, wTest, wTrk, wSlc, wNoPart, wPart, fMt, List.getElem?_cons_succ, List.getElem?_cons_zero, tupOf, lstOf, gdOf, ex_eq, ex_eq', ex2_eq, ex2_eq', Bfn.f, Mth.f, compT, tgB, setAll, wipeD, wYes, List.map_cons, List.map_nil, List.set_cons_succ, List.set_cons_zero, List.length_cons, List.length_nil, Bop.f, Cop.f, Iop.f, fI2, fS2, fIx, fNeg, true_and, and_true, if_true, bodyEnds, R.fz_v, R.fz_tl, atI_0, atI_1, atI_2, atI_3, Option.some.injEq, DO.lst.injEq, decide_eq_true_eq, gup_same, gup_gup, or_false, ixN_s0, ixN_s1, ixN_s2, List.length_set, List.length_map, szl, Nat.reduceAdd, Nat.zero_add, Nat.reduceLeDiff, Nat.zero_le, Int.reduceLE, exists_eq', false_or, fAddT, fAddL, fSl, rolOf, Bool.not_true, Bool.not_false, Bool.false_eq_true, if_false, Bool.false_xor, Bool.xor_true, beq_self_eq_true, isiB_bb, isiB_ll, decide_true, isiB_tt, fIsN, isNon, wTry, wCallv, wRaise, setO, gonO, tryEnds, wMk, wMkAt, wAt, wRaiseAt, isKd, Mth.kd, eq_self, wDis, wDnK, wDnT, wDput, wPar, wRngD, wFld, wMeth, wNew, wSfld, wCh3, wPar3, wRevL, wDputM, wText, fInT, wIng, wSfld2, wDead, wLock, lckE, wLockE, wKeysL, fDIxL, fDmt, Dmt.f])
local macro_rules | `(tactic| walk_at "stp") => `(tactic| first | (rw [wHid_eq]; conv in (wSs _) => arg 1; whnf) | (conv in (wSs _) => arg 1; whnf))
local macro_rules | `(tactic| walk_at "wx") => `(tactic| simp only [wSs, wS, wE, wL, wO, wSq, wRet, wRetN, wAsg, wIf, wDrop, wFor, wPut, wNx, wArgs, wCons, wNil, wCall, wComp, wI, wB, wSeqT, wSeqL, wRng1, wRng2, wEnumL, wEnumT, wVar, wC, wBin, wUn, wNot, wAnd, wOr, wIte, wTest, wTrk, wSlc, wNoPart, wPart, fMt, List.getElem?_cons_succ, List.getElem?_cons_zero, tupOf, lstOf, gdOf, ex_eq, ex_eq', ex2_eq, ex2_eq', Bfn.f, Mth.f, compT, tgB, setAll, wipeD, wYes, List.map_cons, List.map_nil, List.set_cons_succ, List.set_cons_zero, List.length_cons, List.length_nil, Bop.f, Cop.f, Iop.f, fI2, fS2, fIx, fNeg, true_and, and_true, if_true, bodyEnds, R.fz_v, R.fz_tl, atI_0, atI_1, atI_2, atI_3, Option.some.injEq, DO.lst.injEq, decide_eq_true_eq, gup_same, gup_gup, or_false, ixN_s0, ixN_s1, ixN_s2, List.length_set, List.length_map, szl, Nat.reduceAdd, Nat.zero_add, Nat.reduceLeDiff, Nat.zero_le, Int.reduceLE, exists_eq', false_or, fAddT, fAddL, fSl, rolOf, Bool.not_true, Bool.not_false, Bool.false_eq_true, if_false, Bool.false_xor, Bool.xor_true, beq_self_eq_true, isiB_bb, isiB_ll, decide_true, isiB_tt, fIsN, isNon, wTry, wCallv, wRaise, setO, gonO, tryEnds, wMk, wMkAt, wAt, wRaiseAt, isKd, Mth.kd, eq_self, wDis, wDnK, wDnT, wDput, wPar, wRngD, wFld, wMeth, wNew, wSfld, wCh3, wPar3, wRevL, wDputM, wText, fInT, wIng, wSfld2, wDead, wLock, lckE, wLockE, wKeysL, fDIxL, fDmt, Dmt.f, eIn_tI, eIn_lI, eEq_tI, eEq_lI, eEq_tl, eEq_tl', eEq_bl, eEq_tN, eEq_lN, fIsE, Ufn.f, fSSet, fLSet, if_true, if_false, Bool.true_xor, Bool.xor_false, seqOf, fIxA, fSlA, fAddA, fInA, wSeqA, wEnumA, isKd, Mth.kd, fB2, okD_int, okD_bl, okDs_intsN, inD_ints, fRepL, fAddS, fIxS, eEq_int, wCh, fLRng, fRevT, fRow2, fTRng, fLSetT, fMaxD, wStp, fLz, wLockX, wDisE, Tfn.f, fDEq, fDInL, fDIxA])
theorem kv_ok {u w : Nat} : ∀ {l : List (PyData × PyData)}, (∀ p ∈ l, ∃ A B : D, p = (pd A, pd B) ∧ Sx 9 u A ∧ Sx 9 w B) → PyData.depthKv l ≤ 9 ∧ PyData.showableKv l = true ∧ PyData.leavesShortKv 44 l = true ∧ PyData.weightKv l ≤ l.length * (u + w + 2)
  | [], _ => ⟨Nat.zero_le _, rfl, rfl, Nat.zero_le _⟩
  | p :: l, h => by
    obtain ⟨h1, h2, h3, h4⟩ := kv_ok (l := l) fun q m => h q (List.mem_cons_of_mem _ m)
    obtain ⟨A, B, rfl, a, b⟩ := h p List.mem_cons_self
    have d1 := (okD_lay 9 A a.1)
    have d2 := (okD_lay 9 B b.1)
    have l1 := PyData.leavesShort_of_canLay0 44 _ d1.1 a.2.1
    have l2 := PyData.leavesShort_of_canLay0 44 _ d2.1 b.2.1
    refine ⟨?_, ?_, ?_, ?_⟩
    · simp only [PyData.depthKv]
      have := d1.2
      have := d2.2
      omega
    · simp only [PyData.showableKv, a.2.2.1, b.2.2.1, h2, Bool.and_self]
    · simp only [PyData.leavesShortKv, l1, l2, h3, Bool.and_self]
    · have := a.2.2.2
      have := b.2.2.2
      simp only [PyData.weightKv, List.length_cons, Nat.add_mul, Nat.one_mul]
      omega
theorem pds_keys : ∀ k : List Key, k.map keyP = pds (k.map keyD)
  | [] => rfl
  | .inl i :: k => by rw [List.map_cons, List.map_cons, pds, ← pds_keys k]; rfl
  | .inr x :: k => by rw [List.map_cons, List.map_cons, pds, ← pds_keys k]; rfl
/-- a dict's rows can be shown -/
theorem reprT_ok {kvs : List (List Key × D)} {u w : Nat} {P : Prop} (hn : kNd kvs) (h : ∀ p ∈ kvs, Sx 9 u (.tup (p.1.map keyD)) ∧ Sx 9 w p.2 ∧ nlP (pd p.2) = true) (hl : kvs.length * (u + w + 2) ≤ 290000) (q : P) :
    kNd kvs ∧ (∀ p ∈ kvs, okD 64 p.2 = true ∧ nlP (pd p.2) = true) ∧ (pdT (fOf kvs) (kvs.map (·.1))).depth ≤ 60 ∧ (pdT (fOf kvs) (kvs.map (·.1))).showable = true ∧ (pdT (fOf kvs) (kvs.map (·.1))).shown.length ≤ 16777216 ∧ P := by
  have hk : ∀ p ∈ (kvs.map (·.1)).map (fun k => (PyData.tuple (k.map keyP), fOf kvs k)), ∃ A B : D, p = (pd A, pd B) ∧ Sx 9 u A ∧ Sx 9 w B := fun p hp => by
    rw [List.map_map] at hp
    obtain ⟨q, hq, rfl⟩ := List.mem_map.mp hp
    obtain ⟨h1, h2, -⟩ := h q hq
    refine ⟨.tup (q.1.map keyD), q.2, ?_, h1, h2⟩
    show (PyData.tuple (q.1.map keyP), fOf kvs q.1) = _
    have e : fOf kvs q.1 = pd q.2 := by unfold fOf; rw [lookD_mem hn hq]; rfl
    rw [e, pd, pds_keys]
  obtain ⟨a1, a2, a3, a4⟩ := kv_ok hk
  rw [List.length_map, List.length_map] at a4
  have h1 := PyData.shown_le 44 (by decide) (pdT (fOf kvs) (kvs.map (·.1))) (by unfold pdT; rw [PyData.leavesShort]; exact a3)
  refine ⟨hn, fun p hp => ⟨okD_more 9 64 (by decide) _ (h p hp).2.1.1, (h p hp).2.2⟩, ?_, ?_, ?_, q⟩
  · unfold pdT; rw [PyData.depth]; omega
  · unfold pdT; rw [PyData.showable]; exact a2
  · have e : (pdT (fOf kvs) (kvs.map (·.1))).weight ≤ 290000 := by unfold pdT; rw [PyData.weight]; omega
    omega
theorem tup_keyD (t : List Int) : (tK t).map keyD = t.map .int := by unfold tK; rw [List.map_map]; rfl
/-- pairs with keys apart, put together -/
theorem merge_nd : ∀ {more kvs : List (List Key × D)}, (more.map (·.1)).Nodup → (∀ p ∈ more, p.1 ∉ kvs.map (·.1)) → mergeD kvs more = kvs ++ more
  | [], kvs, _, _ => (List.append_nil _).symm
  | p :: more, kvs, hn, hd => by
    rw [List.map_cons, List.nodup_cons] at hn
    have hp : putD kvs p.1 p.2 = kvs ++ [p] := by
      unfold putD
      rw [if_neg]
      intro ha
      obtain ⟨q, hq, e⟩ := List.any_eq_true.mp ha
      exact hd p List.mem_cons_self (List.mem_map.mpr ⟨q, hq, of_decide_eq_true e⟩)
    show mergeD (putD kvs p.1 p.2) more = _
    rw [hp, merge_nd hn.2 fun q hq hm => ?_, List.append_assoc]
    · rfl
    rw [List.map_append] at hm
    rcases List.mem_append.mp hm with hm | hm
    · exact hd q (List.mem_cons_of_mem _ hq) hm
    · rw [List.map_cons, List.map_nil] at hm
      have e := List.mem_singleton.mp hm
      exact hn.1 (List.mem_map.mpr ⟨q, hq, e⟩)
end G3

/-! L43: law_k43_how_many_are_needed -/
namespace G3
open PySem L2
local macro_rules | `(tactic| walk_at "wp") => `(tactic| simp only [wSs, wS, wE, wL, wO, wSq, wRet, wRetN, wAsg, wIf, wDrop, wFor, wPut, wNx, wArgs, wCons, wNil, wCall, wComp, wI, wB, wSeqT, wSeqL, wRng1, wRng2, wEnumL, wEnumT, wVar, wC, wBin, wUn, wNot, wAnd, wOr, wIte, wTest, wTrk, wSlc, wNoPart, wPart, fMt, List.getElem?_cons_succ, List.getElem?_cons_zero, tupOf, lstOf, gdOf, ex_eq, ex_eq', ex2_eq, ex2_eq', Bfn.f, Mth.f, compT, tgB, setAll, wipeD, wYes, List.map_cons, List.map_nil, List.set_cons_succ, List.set_cons_zero, List.length_cons, List.length_nil, Bop.f, Cop.f, Iop.f, fI2, fS2, fIx, fNeg, true_and, and_true, if_true, bodyEnds, R.fz_v, R.fz_tl, atI_0, atI_1, atI_2, atI_3, Option.some.injEq, DO.lst.injEq, decide_eq_true_eq, gup_same, gup_gup, or_false, ixN_s0, ixN_s1, ixN_s2, List.length_set, List.length_map, szl, Nat.reduceAdd, Nat.zero_add, Nat.reduceLeDiff, Nat.zero_le, Int.reduceLE, exists_eq', false_or, fAddT, fAddL, fSl, rolOf, Bool.not_true, Bool.not_false, Bool.false_eq_true, if_false, Bool.false_xor, Bool.xor_true, beq_self_eq_true, isiB_bb, isiB_ll, decide_true, isiB_tt, fIsN, isNon, wTry, wCallv, wRaise, setO, gonO, tryEnds, wMk, wMkAt, wAt, wRaiseAt, isKd, Mth.kd, eq_self, wDis, wDnK, wDnT, wDput, wPar, wRngD, wFld, wMeth, wNew, wSfld, wCh3, wPar3, wRevL, wDputM, wText, fInT, wIng, wSfld2, wDead, wLock, lckE, wLockE, wKeysL, fDIxL, fDmt, Dmt.f])
local macro_rules | `(tactic| walk_at "stp") => `(tactic| first | (rw [wHid_eq]; conv in (wSs _) => arg 1; whnf) | (conv in (wSs _) => arg 1; whnf))
local macro_rules | `(tactic| walk_at "wx") => `(tactic| simp only [wSs, wS, wE, wL, wO, wSq, wRet, wRetN, wAsg, wIf, wDrop, wFor, wPut, wNx, wArgs, wCons, wNil, wCall, wComp, wI, wB, wSeqT, wSeqL, wRng1, wRng2, wEnumL, wEnumT, wVar, wC, wBin, wUn, wNot, wAnd, wOr, wIte, wTest, wTrk, wSlc, wNoPart, wPart, fMt, List.getElem?_cons_succ, List.getElem?_cons_zero, tupOf, lstOf, gdOf, ex_eq, ex_eq', ex2_eq, ex2_eq', Bfn.f, Mth.f, compT, tgB, setAll, wipeD, wYes, List.map_cons, List.map_nil, List.set_cons_succ, List.set_cons_zero, List.length_cons, List.length_nil, Bop.f, Cop.f, Iop.f, fI2, fS2, fIx, fNeg, true_and, and_true, if_true, bodyEnds, R.fz_v, R.fz_tl, atI_0, atI_1, atI_2, atI_3, Option.some.injEq, DO.lst.injEq, decide_eq_true_eq, gup_same, gup_gup, or_false, ixN_s0, ixN_s1, ixN_s2, List.length_set, List.length_map, szl, Nat.reduceAdd, Nat.zero_add, Nat.reduceLeDiff, Nat.zero_le, Int.reduceLE, exists_eq', false_or, fAddT, fAddL, fSl, rolOf, Bool.not_true, Bool.not_false, Bool.false_eq_true, if_false, Bool.false_xor, Bool.xor_true, beq_self_eq_true, isiB_bb, isiB_ll, decide_true, isiB_tt, fIsN, isNon, wTry, wCallv, wRaise, setO, gonO, tryEnds, wMk, wMkAt, wAt, wRaiseAt, isKd, Mth.kd, eq_self, wDis, wDnK, wDnT, wDput, wPar, wRngD, wFld, wMeth, wNew, wSfld, wCh3, wPar3, wRevL, wDputM, wText, fInT, wIng, wSfld2, wDead, wLock, lckE, wLockE, wKeysL, fDIxL, fDmt, Dmt.f, eIn_tI, eIn_lI, eEq_tI, eEq_lI, eEq_tl, eEq_tl', eEq_bl, eEq_tN, eEq_lN, fIsE, Ufn.f, fSSet, fLSet, if_true, if_false, Bool.true_xor, Bool.xor_false, seqOf, fIxA, fSlA, fAddA, fInA, wSeqA, wEnumA, isKd, Mth.kd, fB2, okD_int, okD_bl, okDs_intsN, inD_ints, fRepL, fAddS, fIxS, eEq_int, wCh, fLRng, fRevT, fRow2, fTRng, fLSetT, fMaxD, wStp, fLz, wLockX, wDisE, Tfn.f, fDEq, fDInL, fDIxA])
def tab : Tab := [("shows_needed", sp_shows_needed)]
theorem forW_id9 {gd : GH → Prop} {tg : Tg} {tb : TSD} {De : DEnds} (I : Nat → DEnv → GH → Prop) {xs : List D} {ρ : DEnv} {g : GH} (h0 : I 0 ρ g) (hg : ∀ i ρ g, I i ρ g → gd g)
    (hs : ∀ i x, xs[i]? = some x → ∀ ρ g, I i ρ g → ∀ N : DEnv → GH → Prop, (∀ ρ' g', I (i + 1) ρ' g' → N ρ' g') → tgB tg x ρ fun ρ1 => tb { De with nx := N, ct := N } ρ1 g)
    (hd : ∀ ρ g, I xs.length ρ g → De.nx ρ g) : forW gd tg tb De xs ρ g := by
  have := forW_map id I h0 hg hs hd
  rwa [List.map_id] at this
theorem find_self {κ : Type} [DecidableEq κ] {α : Type} : ∀ {l : List (κ × α)} {p : κ × α}, p ∈ l → (l.find? fun q => decide (q.1 = p.1)).isSome = true
  | q :: l, p, h => by
    rw [List.find?_cons]
    by_cases e : q.1 = p.1
    · rw [decide_eq_true e]; rfl
    · rw [decide_eq_false e]
      rcases List.mem_cons.mp h with rfl | h
      · exact absurd rfl e
      · exact find_self h
theorem eqv_fOf {kvs : List (List Key × D)} (k : List Key) : PyData.eqv (fOf kvs k) (fOf kvs k) = true := by
  unfold fOf
  cases lookD kvs k with
  | none => rfl
  | some d => exact deq_self d
theorem dtEq_self (kvs : List (List Key × D)) : dtEq kvs kvs = true := by
  unfold dtEq
  rw [decide_eq_true rfl, Bool.true_and, List.all_eq_true]
  intro p hp
  rw [eqv_fOf, Bool.and_true]
  unfold lookD
  rw [Option.isSome_map]
  exact find_self hp
theorem bls_ok {s : List Bool} {n : Nat} : okD (n + 1) (bls s) = true := by
  show okDs n (s.map .bl) = true
  exact okDs_map D.bl fun _ _ => okD_bl
theorem tabS_ok {rows : List (List Int × List Bool)} : ∀ p ∈ tabS rows, okD 64 p.2 = true := fun p hp => by
  unfold tabS at hp
  obtain ⟨r, hr, rfl⟩ := List.mem_map.mp hp
  exact bls_ok
/-- the book told so often, cut off behind so many -/
theorem repBook (book : List (List Int)) (k : Nat) (n : Int) (h0 : 0 ≤ n) : ∃ bk : List (List Int), D.tup (cutD (List.replicate k (book.map cl)).flatten none (some n)) = cls bk ∧ (∀ c ∈ bk, c ∈ book) ∧ bk.length = min n.toNat (k * book.length) := by
  have e : (List.replicate k (book.map cl)).flatten = ((List.replicate k book).flatten).map cl := by
    rw [List.map_flatten, List.map_replicate]
  refine ⟨cutD (List.replicate k book).flatten none (some n), by rw [e, cutD_map], fun c hc => ?_, ?_⟩
  · unfold cutD at hc
    obtain ⟨l, hl, hd⟩ := List.mem_flatten.mp (List.mem_of_mem_drop (List.mem_of_mem_take hc))
    obtain rfl := (List.mem_replicate.mp hl).2
    exact hd
  · have el : (List.replicate k book).flatten.length = k * book.length := by simp
    unfold cutD HT.sIx
    rw [List.length_take, List.length_drop, el]
    show min ((if n < 0 then _ else min n.toNat (k * book.length)) - 0) (k * book.length - 0) = _
    rw [if_neg (by omega)]
    omega
/-- tables that are shown: each key once, apart, few -/
structure TbF (rows : List (List Int × List Bool)) : Prop where
  nd : (rows.map (·.1)).Nodup
  ap : HApart ((tabS rows).map (·.1))
  s8 : ∀ r ∈ rows, r.2.length = 8
  ks : ∀ r ∈ rows, r.1.length ≤ 1 ∧ ∀ z ∈ r.1, z.natAbs < 10 ^ 12
  len : rows.length ≤ 20
theorem TbF.knd {rows : List (List Int × List Bool)} (h : TbF rows) : kNd (tabS rows) := by
  unfold kNd
  rw [tbr_keys]
  exact tK_map_nd h.nd
theorem bls_nl (s : List Bool) : nlP (pd (bls s)) = true := by
  show nlPs (pds (s.map .bl)) = true
  induction s with
  | nil => rfl
  | cons b s ih => exact ih
theorem TbF.rep {rows : List (List Int × List Bool)} (h : TbF rows) {P : Prop} (q : P) : kNd (tabS rows) ∧ (∀ p ∈ tabS rows, okD 64 p.2 = true ∧ nlP (pd p.2) = true) ∧ (pdT (fOf (tabS rows)) ((tabS rows).map (·.1))).depth ≤ 60 ∧ (pdT (fOf (tabS rows)) ((tabS rows).map (·.1))).showable = true ∧ (pdT (fOf (tabS rows)) ((tabS rows).map (·.1))).shown.length ≤ 16777216 ∧ P := by
  refine reprT_ok (u := 200) (w := 200) h.knd (fun p hp => ?_) ?_ q
  · unfold tabS at hp
    obtain ⟨r, hr, rfl⟩ := List.mem_map.mp hp
    obtain ⟨k1, k2⟩ := h.ks r hr
    refine ⟨?_, ?_, bls_nl _⟩
    · rw [tup_keyD]
      exact (Sxs.tup (n := 7) (w := 140) (u := 200) (fun d hd => by obtain ⟨z, hz, rfl⟩ := List.mem_map.mp hd; exact Sx.int (k2 z hz)) (by rw [List.length_map]; omega)).up (by decide) (Nat.le_refl _)
    · exact (Sxs.tup (n := 7) (w := 1) (u := 200) (fun d hd => by obtain ⟨b, hb, rfl⟩ := List.mem_map.mp hd; exact Sx.bl) (by rw [List.length_map, h.s8 r hr]; decide)).up (by decide) (Nat.le_refl _)
  · unfold tabS
    rw [List.length_map]
    have := h.len
    omega
def oneT : List (List Int) := [] :: (List.range 17).map fun i : Nat => [(i : Int)]
theorem oneT_nd : ndB 66 (oneT.map natH) = true := by decide +kernel
theorem TbF.nil : TbF [] := ⟨List.nodup_nil, apart_of oneT_nd (nss := []) (by simp) List.nodup_nil, by simp, by simp, by simp⟩
theorem TbF.one {s : List Bool} (h : s.length = 8) : TbF [([], s)] := by
  refine ⟨by simp, ?_, by simp [h], by simp, by simp⟩
  exact apart_of oneT_nd (nss := [[]]) (by decide) (by simp)
theorem range_nd {n : Nat} : ((List.range n).map fun i : Nat => [(i : Int)]).Nodup := by
  refine List.Pairwise.map _ (fun a b h e => h ?_) List.nodup_range
  have := List.head_eq_of_cons_eq e
  omega
theorem TbF.ones {s : List Bool} {n : Nat} (hn : n ≤ 17) (h : s.length = 8) : TbF ((List.range n).map fun i : Nat => ([(i : Int)], s)) := by
  have e : ((List.range n).map fun i : Nat => ([(i : Int)], s)).map (·.1) = (List.range n).map fun i : Nat => [(i : Int)] := by rw [List.map_map]; rfl
  refine ⟨by rw [e]; exact range_nd, ?_, fun r hr => ?_, fun r hr => ?_, by rw [List.length_map, List.length_range]; omega⟩
  · rw [tbr_keys, e]
    refine apart_of oneT_nd (fun t ht => ?_) range_nd
    obtain ⟨i, hi, rfl⟩ := List.mem_map.mp ht
    exact List.mem_cons_of_mem _ (List.mem_map.mpr ⟨i, List.mem_range.mpr (by have := List.mem_range.mp hi; omega), rfl⟩)
  · obtain ⟨i, hi, rfl⟩ := List.mem_map.mp hr; exact h
  · obtain ⟨i, hi, rfl⟩ := List.mem_map.mp hr
    have := List.mem_range.mp hi
    exact ⟨Nat.le_refl _, fun z hz => by rw [List.mem_singleton.mp hz]; omega⟩
def n_law : List Str := ["script", "feed", "turn", "great", "against", "ones", "things", "book", "claim", "many", "many_more", "table", "handed", "found", "k", "number"]
def b_law_28 : Sl := .cons (.ifs (.cmp .neS (.tfn .reprT (.cons (.var 12) (.nil))) (.tfn .reprT (.cons (.var 11) (.nil)))) (.cons (.ret (.cst (.bl false))) (.nil)) (.nil)) (.nil)
def b_law_25 : Sl := .cons (.asg (.nm 12) (.tfn .copyT (.cons (.var 11) (.nil)))) (.cons (.ifs (.cmp .neS (.call "_law_srefused" (sp_law_srefused tab) (.cons (.tup (.cons (.glb "shows_needed" (.gl "shows_needed")) (.cons (.var 3) (.cons (.var 8) (.cons (.var 9) (.cons (.var 12) (.nil))))))) (.nil))) (.cst (.str "many"))) (.cons (.ret (.cst (.bl false))) (.nil)) (.nil)) (.part b_law_28))
def b_law_24 : Sl := .cons (.for_ (.seqT (.tup (.cons (.tup (.cons (.cst (.int 1)) (.cons (.dnT) (.nil)))) (.cons (.tup (.cons (.cst (.int 1)) (.cons (.disE 4) (.nil)))) (.cons (.tup (.cons (.cst (.int 2)) (.cons (.var 5) (.nil)))) (.nil)))))) (.tp [9, 11]) (.part b_law_25)) (.cons (.ret (.cst (.bl true))) (.nil))
def b_law_23 : Sl := .cons (.asg (.nm 5) (.tfn .pairsT (.cons (.comp [("number", 15)] (.rng1 (.cons (.blf .len (.cons (.var 3) (.nil))) (.nil))) (.nm 15) (.no) (.tup (.cons (.tup (.cons (.var 15) (.nil))) (.cons (.var 4) (.nil))))) (.nil)))) (.part b_law_24)
def b_law_22 : Sl := .cons (.asg (.nm 4) (.blf .tuple (.cons (.comp [("k", 14)] (.rng2 (.cons (.cst (.int 1)) (.cons (.cst (.int 9)) (.nil)))) (.nm 14) (.no) (.cmp .inA (.bin .subI (.cst (.int 0)) (.var 14)) (.var 8))) (.nil)))) (.part b_law_23)
def b_law_21 : Sl := .cons (.asg (.nm 3) (.slc .t (.bin .repT (.var 7) (.cst (.int 11))) (.no) (.so (.bin .addI (.cst (.int 11)) (.call "_law_sdraw" sp_law_sdraw (.cons (.var 1) (.cons (.cst (.int 6)) (.nil)))))))) (.part b_law_22)
def b_law_19 : Sl := .cons (.ifs (.cmp .neS (.blf .repr (.cons (.var 13) (.nil))) (.blf .repr (.cons (.call "_law_s_due" sp_law_s_due (.cons (.var 10) (.cons (.var 8) (.cons (.var 9) (.cons (.var 11) (.nil)))))) (.nil)))) (.cons (.ret (.cst (.bl false))) (.nil)) (.nil)) (.nil)
def b_law_18 : Sl := .cons (.asg (.nm 13) (.call "shows_needed" sp_shows_needed (.cons (.var 10) (.cons (.var 8) (.cons (.var 9) (.cons (.tfn .copyT (.cons (.var 11) (.nil))) (.nil))))))) (.part b_law_19)
def b_law_17 : Sl := .cons (.for_ (.seqL (.call "_law_s_tables" sp_law_s_tables (.cons (.var 1) (.cons (.var 10) (.cons (.var 8) (.cons (.blf .sorted (.cons (.var 6) (.nil))) (.cons (.var 9) (.nil)))))))) (.nm 11) (.part b_law_18)) (.nil)
def b_law_16 : Sl := .cons (.for_ (.seqT (.tup (.cons (.cst (.int 1)) (.cons (.cst (.int 2)) (.cons (.cst (.int 3)) (.nil)))))) (.nm 9) (.part b_law_17)) (.nil)
def b_law_15 : Sl := .cons (.asg (.nm 10) (.slc .t (.bin .repT (.var 7) (.cst (.int 10))) (.no) (.so (.bin .addI (.cst (.int 9)) (.call "_law_sdraw" sp_law_sdraw (.cons (.var 1) (.cons (.cst (.int 2)) (.nil)))))))) (.part b_law_16)
def b_law_14 : Sl := .cons (.ifs (.cmp .eqI (.call "_law_sdraw" sp_law_sdraw (.cons (.var 1) (.cons (.cst (.int 4)) (.nil)))) (.cst (.int 0))) (.part b_law_15) (.nil)) (.part b_law_21)
def b_law_12 : Sl := .cons (.ifs (.cmp .neD (.var 13) (.call "_law_s_due" sp_law_s_due (.cons (.var 7) (.cons (.var 8) (.cons (.var 9) (.cons (.var 11) (.nil))))))) (.cons (.ret (.cst (.bl false))) (.nil)) (.nil)) (.nil)
def b_law_10 : Sl := .cons (.ifs (.or (.not (.blf (.isi "bool") (.cons (.var 13) (.cons (.blt "bool" "bool") (.nil))))) (.cmp .neT (.var 12) (.var 11))) (.cons (.ret (.cst (.bl false))) (.nil)) (.nil)) (.part b_law_12)
def b_law_8 : Sl := .cons (.asg (.nm 12) (.tfn .copyT (.cons (.var 11) (.nil)))) (.cons (.asg (.nm 13) (.call "shows_needed" sp_shows_needed (.cons (.var 7) (.cons (.var 8) (.cons (.var 9) (.cons (.var 12) (.nil))))))) (.part b_law_10))
def b_law_7 : Sl := .cons (.for_ (.seqL (.call "_law_s_tables" sp_law_s_tables (.cons (.var 1) (.cons (.var 7) (.cons (.var 8) (.cons (.blf .sorted (.cons (.var 6) (.nil))) (.cons (.var 9) (.nil)))))))) (.nm 11) (.part b_law_8)) (.nil)
def b_law_6 : Sl := .cons (.for_ (.rng2 (.cons (.cst (.int 1)) (.cons (.bin .addI (.blf .len (.cons (.var 7) (.nil))) (.cst (.int 1))) (.nil)))) (.nm 9) (.part b_law_7)) (.nil)
def b_law_5 : Sl := .cons (.asg (.nm 8) (.idx .l (.lst (.cons (.tup (.nil)) (.cons (.call "_law_sclaim" sp_law_sclaim (.cons (.var 1) (.cons (.var 6) (.cons (.cst (.int 3)) (.nil))))) (.nil)))) (.call "_law_sdraw" sp_law_sdraw (.cons (.var 1) (.cons (.cst (.int 2)) (.nil)))))) (.part b_law_6)
def b_law_4 : Sl := .cons (.asg (.nm 7) (.bin .addT (.call "_law_sbook" sp_law_sbook (.cons (.var 1) (.cons (.var 6) (.cons (.cst (.int 6)) (.nil))))) (.tup (.cons (.call "_law_sclaim" sp_law_sclaim (.cons (.var 1) (.cons (.var 6) (.cons (.cst (.int 2)) (.nil))))) (.nil))))) (.part b_law_5)
def b_law_3 : Sl := .cons (.asg (.nm 6) (.call "_law_sthings" sp_law_sthings (.cons (.var 1) (.cons (.cst (.int 2)) (.cons (.cst (.int 4)) (.nil)))))) (.part b_law_4)
def b_law_2 : Sl := .cons (.for_ (.rng1 (.cons (.cst (.int 2)) (.nil))) (.nm 2) (.part b_law_3)) (.part b_law_14)
def b_law : Sl := .cons (.asg (.nm 1) (.trk (.call "_law_sopen" sp_law_sopen (.cons (.var 0) (.nil))))) (.part b_law_2)
def sp_law : GSp := fun ds g Q _ => ∃ ns : List Int, ds = [.rl (ns.map .int)] ∧ ∀ g', Q (.v (.bl true)) g'
theorem w_law : ∀ ds g Q W, sp_law ds g Q W → wSs b_law (bodyEnds g Q W) (startD 16 ds) g := by
  rintro ds g Q W ⟨ns, rfl, h⟩
  change wSs _ _ [some _, none, none, none, none, none, none, none, none, none, none, none, none, none, none, none] g
  walk_at "stp"; walk_at "wx"
  refine ⟨ns, rfl, fun cells => ?_⟩
  walk_at "wx"
  intro p hp
  walk_at "stp"; walk_at "wx"
  refine ⟨by decide, by decide, ?_⟩
  refine forW_rng (fun k ρ g2 => ∃ (o : DO) (x2 x6 x7 x8 x9 x11 x12 x13 : Option D), g2 p = some o ∧ FeedO o (3000 * k) ∧ (0 < k → ∃ (things claim : List Int) (book : List (List Int)), x6 = some (.lst (things.map .int)) ∧ x7 = some (cls book) ∧ x8 = some (cl claim) ∧ CaseOk book claim (isort things) ∧ book.length ≤ 7) ∧
    ρ = [some (.rl (ns.map .int)), some (.ref p), x2, none, none, none, x6, x7, x8, x9, none, x11, x12, x13, none, none]) ?_ ?_ ?_
  · exact ⟨_, none, none, none, none, none, none, none, none, gup_same, ⟨cells, 0, 0, rfl, by omega, by omega, by omega⟩, fun h => absurd h (by decide), rfl⟩
  · rintro i hi ρ g2 ⟨o, x2, x6, x7, x8, x9, x11, x12, x13, hp2, hf, -, rfl⟩ N hN
    walk_at "wx"
    walk_at "stp"; walk_at "wx"
    refine ⟨p, o, _, 2, 4, rfl, hp2, hf, by omega, by omega, by omega, by omega, fun things left o1 hpm hl1 hl5 hf1 => ?_⟩
    obtain ⟨hx, hnd, hl8⟩ := perm8 hpm
    walk_at "wx"
    walk_at "stp"; walk_at "wx"
    refine ⟨p, o1, _, 6, things, rfl, gup_same, hf1, by omega, by omega, by omega, by omega, by omega, fun x m => (hx x m).1, fun book0 o2 hb hb1 hb9 hf2 => ?_⟩
    walk_at "wx"
    refine ⟨p, o2, _, 2, things, rfl, gup_same, hf2, by omega, by omega, by omega, by omega, fun x m => (hx x m).1, fun c1 o3 hc1 _ hf3 => ?_⟩
    walk_at "wx"
    refine ⟨by omega, ?_⟩
    have eb : D.tup (List.map (fun c => D.tup (List.map D.int c)) book0 ++ [D.tup (List.map D.int c1)]) = cls (book0 ++ [c1]) := by
      show _ = D.tup (List.map cl (book0 ++ [c1])); rw [List.map_append]; rfl
    rw [eb]
    have hb' : ∀ c ∈ book0 ++ [c1], ClaimOf things c := fun c hc => by
      rcases List.mem_append.mp hc with hc | hc
      · exact hb c hc
      · rw [List.mem_singleton.mp hc]; exact hc1
    have hbl : 1 ≤ (book0 ++ [c1]).length ∧ (book0 ++ [c1]).length ≤ 7 := by rw [List.length_append]; simp; omega
    generalize book0 ++ [c1] = book at hb' hbl
    have hb8 : ∀ c ∈ book, Cl8 c := fun c hc => (hb' c hc).cl8 hnd hx hl8
    walk_at "stp"; walk_at "wx"
    refine ⟨p, o3, _, 3, things, rfl, gup_same, hf3, by omega, by omega, by omega, by omega, fun x m => (hx x m).1, fun c2 o4 hc2 _ hf4 => ?_⟩
    walk_at "wx"
    refine ⟨p, o4, _, 2, rfl, gup_same, hf4, by omega, by omega, by omega, fun d o5 hd0 hd1 hf5 => ?_⟩
    have fin : ∀ claim : List Int, (∀ z ∈ claim, (z.natAbs : Int) ∈ things) → Cl8 claim →
        wHid (wSs b_law_6) { nx := N, rt := RetOk g Q, ct := N, ex := XRet W }
          [some (D.rl (List.map D.int ns)), some (D.ref p), some (D.int (i : Int)), none, none, none, some (D.lst (List.map D.int things)), some (cls book), some (cl claim), x9, none, x11, x12, x13, none, none] (gup g2 p o5) := fun claim hcm hc8 => by
      have hC : CaseOk book claim (isort things) := by
        have pm := isort_perm things
        refine ⟨hbl.1, by omega, hb8, hc8, by rw [pm.length_eq]; exact hl8, fun t ht => hx t (pm.mem_iff.mp ht), fun c hc z hz => pm.mem_iff.mpr ?_⟩
        rcases List.mem_append.mp hc with hc | hc
        · exact (hb' c hc).mem hz
        · rw [List.mem_singleton.mp hc] at hz; exact hcm z hz
      walk_at "stp"; walk_at "wx"
      refine ⟨by omega, ?_⟩
      rw [show ((book.length : Int) + 1 - 1).toNat = book.length by omega]
      have er : rngD 1 book.length = (List.range book.length).map fun i : Nat => D.int (1 + (i : Int)) := rfl
      rw [er]
      refine forW_map (fun i : Nat => D.int (1 + (i : Int))) (fun k ρ g2 => ∃ (o : DO) (x9 x11 x12 x13 : Option D), g2 p = some o ∧ FeedO o (3000 * i + 300 + 200 * k) ∧ k ≤ 7 ∧
        ρ = [some (.rl (ns.map .int)), some (.ref p), some (.int (i : Int)), none, none, none, some (.lst (things.map .int)), some (cls book), some (cl claim), x9, none, x11, x12, x13, none, none]) ⟨o5, _, _, _, _, gup_same, hf5.up (by omega), by decide, rfl⟩ (fun _ _ _ _ => trivial) ?_ ?_
      · rintro k m hm ρ g3 ⟨o, x9, x11, x12, x13, hp3, hf6, hk7, rfl⟩ N2 hN2
        obtain ⟨ml, em⟩ := List.getElem?_eq_some_iff.mp hm
        rw [List.getElem_range] at em
        subst em
        rw [List.length_range] at ml
        walk_at "wx"
        walk_at "stp"; walk_at "wx"
        refine ⟨things, rfl, p, o, _, book, claim, isort things, k, by rw [show (1 : Int) + (k : Int) = (k : Int) + 1 by omega], hp3, hf6, by omega, by omega, hC, by omega, by omega, fun as o6 g4 hA hal hap hf7 hle => ?_⟩
        walk_at "wx"
        have hp4 : g4 p = some o6 := hle p o6 gup_same
        refine forW_map D.ref (fun j ρ g5 => g5 p = some o6 ∧ Tbs g5 as ∧ ∃ x11 x12 x13, ρ = [some (.rl (ns.map .int)), some (.ref p), some (.int (i : Int)), none, none, none, some (.lst (things.map .int)), some (cls book), some (cl claim), some (.int (1 + (k : Int))), none, x11, x12, x13, none, none]) ⟨hp4, hA, _, _, _, rfl⟩ (fun _ _ _ _ => trivial) ?_ ?_
        · rintro j a hj ρ g5 ⟨hp5, hA5, x11, x12, x13, rfl⟩ N3 hN3
          obtain ⟨rs, ga, hT⟩ := hA5 a (List.mem_of_getElem? hj)
          walk_at "wx"
          walk_at "stp"; walk_at "wx"
          refine ⟨_, .inl ga, hT.apart, fun q hq => ?_⟩
          have qa : a ≠ q := fun z => by rw [← z, ga] at hq; cases hq
          have qp : p ≠ q := fun z => by rw [← z, hp5] at hq; cases hq
          refine ⟨book, claim, k + 1, q, rs, by rw [show (1 : Int) + (k : Int) = ((k + 1 : Nat) : Int) by omega], gup_same, hT.s8, by omega, by omega, hb8, hc8, fun h10 => absurd h10 (by omega), fun _ => ?_⟩
          walk_at "wx"
          walk_at "stp"; walk_at "wx"
          refine ⟨by decide, "bool", rfl, ?_⟩
          rw [if_neg (by decide)]
          refine ⟨_, _, .inl gup_same, .inl (by rw [gup_ne qa]; exact ga), hT.knd, hT.knd, tabS_ok, tabS_ok, ?_⟩
          rw [dtEq_self]
          walk_at "wx"
          walk_at "stp"; walk_at "wx"
          refine ⟨book, claim, k, a, rs, by rw [show (1 : Int) + (k : Int) = (k : Int) + 1 by omega], by rw [gup_ne qa]; exact ga, hT, by omega, hb8, hc8, by omega, ?_⟩
          unfold needB
          walk_at "wx"
          rw [show k + 1 - 1 = k from rfl, if_neg (by simp)]
          refine hN3 _ (gup g5 q (.dt (tabS rs))) ⟨by rw [gup_ne qp]; exact hp5, fun b hb => ?_, _, _, _, rfl⟩
          obtain ⟨rs2, gb, hT2⟩ := hA5 b hb
          exact ⟨rs2, by rw [gup_ne (fun z => by rw [z, hq] at gb; cases gb)]; exact gb, hT2⟩
        · rintro ρ g5 ⟨hp5, hA5, x11, x12, x13, rfl⟩
          exact hN2 _ _ ⟨o6, _, _, _, _, hp5, hf7.up (by omega), by omega, rfl⟩
      · rintro ρ g3 ⟨o, x9, x11, x12, x13, hp3, hf6, hk7, rfl⟩
        rw [List.length_range] at hf6
        exact hN _ _ ⟨o, _, _, _, _, _, _, _, _, hp3, hf6.up (by omega), fun _ => ⟨_, _, _, rfl, rfl, rfl, hC, hbl.2⟩, rfl⟩
    show ∃ y, atI [D.tup [], D.tup (List.map D.int c2)] d = some y ∧ _
    rw [gup_gup]
    obtain rfl | rfl : d = 0 ∨ d = 1 := by omega
    · exact ⟨_, rfl, fin [] (fun z hz => by cases hz) nil8⟩
    · exact ⟨_, rfl, fin c2 (fun z hz => hc2.mem hz) (hc2.cl8 hnd hx hl8)⟩
  · rintro ρ g2 ⟨o, x2, x6, x7, x8, x9, x11, x12, x13, hp2, hf, hC, rfl⟩
    obtain ⟨things, claim, book, rfl, rfl, rfl, hC, hl⟩ := hC (by decide)
    walk_at "stp"; walk_at "wx"
    refine ⟨p, o, _, 4, rfl, hp2, hf, by omega, by omega, by omega, fun d o1 hd0 hd1 hf1 => ?_⟩
    walk_at "wx"
    obtain ⟨hb1, hb2, hb8, hc8, he8, he, hall⟩ := id hC
    have hf1 : FeedO o1 6001 := hf1
    have hne : book.map cl ≠ [] := fun e => by have := congrArg List.length e; rw [List.length_map] at this; simp only [List.length_nil] at this; omega
    have f21 : ∀ (o' : DO) (n : Int) (x9 x10 x11 x12 x13 : Option D) (g3 : GH), g3 p = some o' → FeedO o' n → 0 ≤ n → n ≤ 2 ^ 60 →
        wHid (wSs b_law_21) { nx := fun x g' => RetOk g Q (R.v D.non) g', rt := RetOk g Q, ct := fun x x_1 => False, ex := XRet W }
          [some (.rl (ns.map .int)), some (.ref p), x2, none, none, none, some (.lst (things.map .int)), some (cls book), some (cl claim), x9, x10, x11, x12, x13, none, none] g3 := by
      intro o' n x9 x10 x11 x12 x13 g3 hp3 hf3 h0 h1
      walk_at "stp"; walk_at "wx"
      refine ⟨book.map cl, rfl, hne, by decide, by decide, (by show (book.map cl).length ≤ 1000; rw [List.length_map]; omega), ?_⟩
      refine ⟨p, o', _, 6, rfl, hp3, hf3, by omega, by omega, by omega, fun d o1 hd0 hd1 hf1 => ?_⟩
      walk_at "wx"
      obtain ⟨bk, ebk, hbk, hbl⟩ := repBook book 11 (11 + d) (by omega)
      rw [show Int.toNat 11 = 11 from rfl, ebk]
      have hbk8 : ∀ c ∈ bk, Cl8 c := fun c hc => hb8 c (hbk c hc)
      walk_at "stp"; walk_at "wx"
      refine ⟨by decide, ?_⟩
      have er : rngD 1 (9 - 1 : Int).toNat = (List.range 8).map fun i : Nat => D.int (1 + (i : Int)) := rfl
      rw [er]
      refine compW_m (fun i : Nat => D.int (1 + (i : Int))) (fun i : Nat => D.bl (claim.contains (0 - (1 + (i : Int))))) trivial (fun j hj P hP => ?_) (by rw [szl]; decide) ?_
      · walk_at "wx"
        exact hP
      have es : D.tup ((List.range 8).map fun i : Nat => D.bl (claim.contains (0 - (1 + (i : Int))))) = bls ((List.range 8).map fun i : Nat => claim.contains (0 - (1 + (i : Int)))) := by unfold bls; rw [List.map_map]; rfl
      rw [es]
      have s8 : ((List.range 8).map fun i : Nat => claim.contains (0 - (1 + (i : Int)))).length = 8 := by rw [List.length_map]; rfl
      generalize (List.range 8).map (fun i : Nat => claim.contains (0 - (1 + (i : Int)))) = ag at *
      walk_at "stp"; walk_at "wx"
      refine ⟨by omega, by omega, ?_⟩
      rw [Int.toNat_natCast, rngD_ints]
      refine compW_m D.int (fun z => D.tup [D.tup [D.int z], bls ag]) trivial (fun z hz P hP => ?_) (by rw [szl, rngI_len]; omega) ?_
      · walk_at "wx"
        exact hP
      refine ⟨(rngI bk.length).map fun z => ([z], bls ag), by rw [List.map_map]; rfl, fun q hq => ?_⟩
      have em : mergeD [] (((rngI bk.length).map fun z => ([z], bls ag)).map fun r => (tK r.1, r.2)) = tabS ((List.range bk.length).map fun i : Nat => ([(i : Int)], ag)) := by
        have e : (((rngI bk.length).map fun z => ([z], bls ag)).map fun r => (tK r.1, r.2)) = tabS ((List.range bk.length).map fun i : Nat => ([(i : Int)], ag)) := by
          unfold rngI tabS
          rw [List.map_map, List.map_map, List.map_map]
          exact List.map_congr_left fun i _ => by simp
        rw [e, merge_nd (TbF.ones (by omega) s8).knd (by simp), List.nil_append]
      rw [em]
      have hF1 := TbF.ones (n := bk.length) (by omega) s8
      generalize (List.range bk.length).map (fun i : Nat => ([(i : Int)], ag)) = r1 at *
      have qp : p ≠ q := fun z => by rw [← z, gup_same] at hq; cases hq
      walk_at "stp"; walk_at "wx"
      intro e1 he1 e2 he2
      have qe1 : q ≠ e1 := fun z => by rw [← z, gup_same] at he1; cases he1
      have qe2 : q ≠ e2 := fun z => by rw [← z, gup_ne qe1, gup_same] at he2; cases he2
      have ee : e1 ≠ e2 := fun z => by rw [← z, gup_same] at he2; cases he2
      have G0 : ∀ x ∈ [(e1, ([] : List (List Int × List Bool))), (e2, [([], ag)]), (q, r1)], gup (gup (gup (gup g3 p o1) q (DO.dt (tabS r1))) e1 (DO.dt [])) e2 (DO.dt [([], bls ag)]) x.1 = some (.dt (tabS x.2)) ∧ TbF x.2 := fun x hx => by
        simp only [List.mem_cons, List.not_mem_nil, or_false] at hx
        rcases hx with rfl | rfl | rfl
        · exact ⟨by rw [gup_ne ee, gup_same]; rfl, .nil⟩
        · exact ⟨by rw [gup_same]; rfl, .one s8⟩
        · exact ⟨by rw [gup_ne qe2, gup_ne qe1, gup_same], hF1⟩
      have three : ∀ d ∈ [D.tup [D.int 1, D.ref e1], D.tup [D.int 1, D.ref e2], D.tup [D.int 2, D.ref q]], ∃ (mm : Nat) (x : Addr × List (List Int × List Bool)), d = .tup [.int (mm : Int), .ref x.1] ∧ 1 ≤ mm ∧ mm ≤ 12 ∧ x ∈ [(e1, ([] : List (List Int × List Bool))), (e2, [([], ag)]), (q, r1)] := fun d hd => by
        simp only [List.mem_cons, List.not_mem_nil, or_false] at hd
        rcases hd with rfl | rfl | rfl
        · exact ⟨1, (e1, []), rfl, by decide, by decide, by simp⟩
        · exact ⟨1, (e2, [([], ag)]), rfl, by decide, by decide, by simp⟩
        · exact ⟨2, (q, r1), rfl, by decide, by decide, by simp⟩
      generalize [(e1, ([] : List (List Int × List Bool))), (e2, [([], ag)]), (q, r1)] = X3 at *
      refine forW_id9 (fun k ρ G => (∀ x ∈ X3, G x.1 = some (.dt (tabS x.2)) ∧ TbF x.2) ∧ ∃ x9 x11 x12 x13, ρ = [some (.rl (ns.map .int)), some (.ref p), x2, some (cls bk), some (bls ag), some (.ref q), some (.lst (things.map .int)), some (cls book), some (cl claim), x9, x10, x11, x12, x13, none, none]) ⟨G0, _, _, _, _, rfl⟩ (fun _ _ _ _ => trivial) ?_ ?_
      · rintro j d hj ρ G ⟨hG, x9, x11, x12, x13, rfl⟩ N hN
        obtain ⟨mm, x, rfl, m1, m2, hx⟩ := three d (List.mem_of_getElem? hj)
        obtain ⟨gx, hF⟩ := hG x hx
        walk_at "wx"
        walk_at "stp"; walk_at "wx"
        refine ⟨_, .inl gx, hF.ap, fun hd hhd => ?_⟩
        have xh : x.1 ≠ hd := fun z => by rw [← z, gx] at hhd; cases hhd
        refine ⟨"shows_needed", sp_shows_needed, [cls bk, cl claim, .int (mm : Int), .ref hd], rfl, by simp [tab], by simp, by simp, fun Qc Wc _ hW => ?_⟩
        refine ⟨bk, claim, mm, hd, x.2, rfl, gup_same, hF.s8, m1, m2, hbk8, hc8, fun _ => hW _ _ (by decide +kernel) ?_, fun h10 => absurd h10 (by omega)⟩
        show if (!decide (word (Str.ofString "TooMany") = Str.ofString "many")) = true then _ else _
        rw [show word (Str.ofString "TooMany") = Str.ofString "many" from by decide +kernel, if_neg (by simp)]
        walk_at "stp"; walk_at "wx"
        refine ⟨_, .inl gup_same, hF.rep ⟨_, .inl (by rw [gup_ne xh]; exact gx), hF.rep ?_⟩⟩
        rw [if_neg (by simp)]
        refine hN _ _ ⟨fun y hy => ?_, _, _, _, _, rfl⟩
        obtain ⟨gy, hy2⟩ := hG y hy
        exact ⟨by rw [gup_ne (fun z => by rw [z, hhd] at gy; cases gy)]; exact gy, hy2⟩
      · rintro ρ G ⟨hG, x9, x11, x12, x13, rfl⟩
        walk_at "wx"
        exact .same (h _)
    split
    · walk_at "stp"; walk_at "wx"
      refine ⟨book.map cl, rfl, hne, by decide, by decide, (by show (book.map cl).length ≤ 1000; rw [List.length_map]; omega), ?_⟩
      refine ⟨p, o1, _, 2, rfl, gup_same, hf1, by omega, by omega, by omega, fun d2 o2 hd20 hd21 hf2 => ?_⟩
      walk_at "wx"
      obtain ⟨bk, ebk, hbk, hbl⟩ := repBook book 10 (9 + d2) (by omega)
      rw [show Int.toNat 10 = 10 from rfl, ebk]
      have hbk8 : ∀ c ∈ bk, Cl8 c := fun c hc => hb8 c (hbk c hc)
      have hCb : CaseOk bk claim (isort things) := ⟨by omega, by omega, hbk8, hc8, he8, he, fun c hc z hz => by
        rcases List.mem_append.mp hc with hc | hc
        · exact hall c (List.mem_append_left _ (hbk c hc)) z hz
        · exact hall c (List.mem_append_right _ hc) z hz⟩
      have h123 : ∀ d ∈ [D.int 1, D.int 2, D.int 3], ∃ k : Nat, d = .int (1 + (k : Int)) ∧ k ≤ 2 := fun d hd => by
        simp only [List.mem_cons, List.not_mem_nil, or_false] at hd
        rcases hd with rfl | rfl | rfl
        · exact ⟨0, rfl, by decide⟩
        · exact ⟨1, rfl, by decide⟩
        · exact ⟨2, rfl, by decide⟩
      walk_at "stp"; walk_at "wx"
      refine forW_id9 (fun k ρ g3 => ∃ (o : DO) (x9 x11 x12 x13 : Option D), g3 p = some o ∧ FeedO o (6010 + 200 * k) ∧ k ≤ 3 ∧
        ρ = [some (.rl (ns.map .int)), some (.ref p), x2, none, none, none, some (.lst (things.map .int)), some (cls book), some (cl claim), x9, some (cls bk), x11, x12, x13, none, none]) ⟨o2, _, _, _, _, gup_same, hf2.up (by omega), by decide, rfl⟩ (fun _ _ _ _ => trivial) ?_ ?_
      · rintro j d hj ρ g3 ⟨o, x9, x11, x12, x13, hp3, hf6, hk7, rfl⟩ N2 hN2
        obtain ⟨k, rfl, hk2⟩ := h123 d (List.mem_of_getElem? hj)
        have hj3 : j < 3 := (List.getElem?_eq_some_iff.mp hj).1
        walk_at "wx"
        walk_at "stp"; walk_at "wx"
        refine ⟨things, rfl, p, o, _, bk, claim, isort things, k, by rw [show (1 : Int) + (k : Int) = (k : Int) + 1 by omega], hp3, hf6, by omega, by omega, hCb, by omega, by omega, fun as o6 g4 hA hal hap hf7 hle => ?_⟩
        walk_at "wx"
        have hp4 : g4 p = some o6 := hle p o6 gup_same
        refine forW_map D.ref (fun j ρ g5 => g5 p = some o6 ∧ Tbs g5 as ∧ ∃ x11 x12 x13, ρ = [some (.rl (ns.map .int)), some (.ref p), x2, none, none, none, some (.lst (things.map .int)), some (cls book), some (cl claim), some (.int (1 + (k : Int))), some (cls bk), x11, x12, x13, none, none]) ⟨hp4, hA, _, _, _, rfl⟩ (fun _ _ _ _ => trivial) ?_ ?_
        · rintro j a hj ρ g5 ⟨hp5, hA5, x11, x12, x13, rfl⟩ N3 hN3
          obtain ⟨rs, ga, hT⟩ := hA5 a (List.mem_of_getElem? hj)
          walk_at "wx"
          walk_at "stp"; walk_at "wx"
          refine ⟨_, .inl ga, hT.apart, fun q hq => ?_⟩
          have qa : a ≠ q := fun z => by rw [← z, ga] at hq; cases hq
          have qp : p ≠ q := fun z => by rw [← z, hp5] at hq; cases hq
          refine ⟨bk, claim, k + 1, q, rs, by rw [show (1 : Int) + (k : Int) = ((k + 1 : Nat) : Int) by omega], gup_same, hT.s8, by omega, by omega, hbk8, hc8, fun h10 => absurd h10 (by omega), fun _ => ?_⟩
          walk_at "wx"
          walk_at "stp"; walk_at "wx"
          have sb : ∀ b : Bool, Sx 5 10 (.bl b) := fun b => Sx.bl
          refine ⟨_, rfl, (sb _).three (by decide) (by decide) ⟨bk, claim, k, a, rs, by rw [show (1 : Int) + (k : Int) = (k : Int) + 1 by omega], by rw [gup_ne qa]; exact ga, hT, by omega, hbk8, hc8, by omega, ?_⟩⟩
          unfold needB
          refine ⟨_, rfl, (sb _).three (by decide) (by decide) ?_⟩
          rw [show k + 1 - 1 = k from rfl, if_neg (by simp)]
          refine hN3 _ (gup g5 q (.dt (tabS rs))) ⟨by rw [gup_ne qp]; exact hp5, fun b hb => ?_, _, _, _, rfl⟩
          obtain ⟨rs2, gb, hT2⟩ := hA5 b hb
          exact ⟨rs2, by rw [gup_ne (fun z => by rw [z, hq] at gb; cases gb)]; exact gb, hT2⟩
        · rintro ρ g5 ⟨hp5, hA5, x11, x12, x13, rfl⟩
          exact hN2 _ _ ⟨o6, _, _, _, _, hp5, hf7.up (by omega), by omega, rfl⟩
      · rintro ρ g3 ⟨o, x9, x11, x12, x13, hp3, hf6, hk7, rfl⟩
        exact f21 o _ _ _ _ _ _ _ hp3 hf6 (by show (0 : Int) ≤ 6010 + 200 * ((3 : Nat) : Int); omega) (by show 6010 + 200 * ((3 : Nat) : Int) ≤ _; omega)
    · exact f21 o1 _ _ _ _ _ _ _ gup_same hf1 (by omega) (by omega)
theorem law_says : ∀ ns : List Int, ns.length ≤ 63 → sp_law [.rl (ns.map .int)] (fun _ => none) (fun r _ => r = .v (.bl true)) fun _ _ => False := fun ns _ => ⟨ns, rfl, fun _ => rfl⟩
end G3

namespace G3End
open PySem PySem.Spec PyProof.Rows L2 G3
abbrev FnP (K : PySem.W.Frag) (x : Str) (st : Stmt) (f : Addr) (fd : FuncData) : Prop := FunD K x x (defArgs st) (defBody st) (defScope st) [] [] f fd
theorem sc_law_s_tuples : FnScope n_law_s_tuples ["count", "many"] (defScope s_law_s_tuples) := ⟨rfl, rfl, rfl, by decide +kernel, rfl, by decide +kernel, by decide +kernel⟩
theorem sc_law_sholds : FnScope n_law_sholds ["claim", "setting"] (defScope s_law_sholds) := ⟨rfl, rfl, rfl, by decide +kernel, rfl, by decide +kernel, by decide +kernel⟩
theorem sc_law_sall_hold : FnScope n_law_sall_hold ["claims", "setting"] (defScope s_law_sall_hold) := ⟨rfl, rfl, rfl, by decide +kernel, rfl, by decide +kernel, by decide +kernel⟩
theorem sc_law_sis_setting : FnScope n_law_sis_setting ["thing"] (defScope s_law_sis_setting) := ⟨rfl, rfl, rfl, by decide +kernel, rfl, by decide +kernel, by decide +kernel⟩
theorem sc_law_sis_against : FnScope n_law_sis_against ["claims", "claim", "setting"] (defScope s_law_sis_against) := ⟨rfl, rfl, rfl, by decide +kernel, rfl, by decide +kernel, by decide +kernel⟩
theorem sc_law_sthose : FnScope n_law_sthose ["book", "numbers"] (defScope s_law_sthose) := ⟨rfl, rfl, rfl, by decide +kernel, rfl, by decide +kernel, by decide +kernel⟩
theorem sc_law_s_due : FnScope n_law_s_due ["book", "claim", "many", "table"] (defScope s_law_s_due) := ⟨rfl, rfl, rfl, by decide +kernel, rfl, by decide +kernel, by decide +kernel⟩
theorem sc_law_severy : FnScope n_law_severy ["things"] (defScope s_law_severy) := ⟨rfl, rfl, rfl, by decide +kernel, rfl, by decide +kernel, by decide +kernel⟩
theorem sc_law_sagainst : FnScope n_law_sagainst ["claims", "claim", "things"] (defScope s_law_sagainst) := ⟨rfl, rfl, rfl, by decide +kernel, rfl, by decide +kernel, by decide +kernel⟩
theorem sc_law_smixed : FnScope n_law_smixed ["cell", "at"] (defScope s_law_smixed) := ⟨rfl, rfl, rfl, by decide +kernel, rfl, by decide +kernel, by decide +kernel⟩
theorem sc_law_sdraw : FnScope n_law_sdraw ["feed", "many"] (defScope s_law_sdraw) := ⟨rfl, rfl, rfl, by decide +kernel, rfl, by decide +kernel, by decide +kernel⟩
theorem sc_law_ssetting : FnScope n_law_ssetting ["feed"] (defScope s_law_ssetting) := ⟨rfl, rfl, rfl, by decide +kernel, rfl, by decide +kernel, by decide +kernel⟩
theorem sc_law_s_tables : FnScope n_law_s_tables ["feed", "book", "claim", "every", "many"] (defScope s_law_s_tables) := ⟨rfl, rfl, rfl, by decide +kernel, rfl, by decide +kernel, by decide +kernel⟩
theorem sc_law_sclaim : FnScope n_law_sclaim ["feed", "things", "most"] (defScope s_law_sclaim) := ⟨rfl, rfl, rfl, by decide +kernel, rfl, by decide +kernel, by decide +kernel⟩
theorem sc_law_sbook : FnScope n_law_sbook ["feed", "things", "most"] (defScope s_law_sbook) := ⟨rfl, rfl, rfl, by decide +kernel, rfl, by decide +kernel, by decide +kernel⟩
theorem sc_law_sopen : FnScope n_law_sopen ["script"] (defScope s_law_sopen) := ⟨rfl, rfl, rfl, by decide +kernel, rfl, by decide +kernel, by decide +kernel⟩
theorem sc_holds : FnScope n_holds ["claim", "setting"] (defScope s_holds) := ⟨rfl, rfl, rfl, by decide +kernel, rfl, by decide +kernel, by decide +kernel⟩
theorem sc_failing : FnScope n_failing ["book", "setting"] (defScope s_failing) := ⟨rfl, rfl, rfl, by decide +kernel, rfl, by decide +kernel, by decide +kernel⟩
theorem sc_need_few : FnScope n_need_few ["book"] (defScope s_need_few) := ⟨rfl, rfl, rfl, by decide +kernel, rfl, by decide +kernel, by decide +kernel⟩
theorem sc_those : FnScope n_those ["book", "numbers"] (defScope s_those) := ⟨rfl, rfl, rfl, by decide +kernel, rfl, by decide +kernel, by decide +kernel⟩
theorem sc_tuples_of : FnScope n_tuples_of ["count", "many"] (defScope s_tuples_of) := ⟨rfl, rfl, rfl, by decide +kernel, rfl, by decide +kernel, by decide +kernel⟩
theorem sc_shows_needed : FnScope n_shows_needed ["book", "claim", "many", "table"] (defScope s_shows_needed) := ⟨rfl, rfl, rfl, by decide +kernel, rfl, by decide +kernel, by decide +kernel⟩
theorem sc_law_srefused : FnScope n_law_srefused ["act"] (defScope s_law_srefused) := ⟨rfl, rfl, rfl, by decide +kernel, rfl, by decide +kernel, by decide +kernel⟩
theorem sc_law_sthings : FnScope n_law_sthings ["feed", "least", "most"] (defScope s_law_sthings) := ⟨rfl, rfl, rfl, by decide +kernel, rfl, by decide +kernel, by decide +kernel⟩
theorem sc_law : FnScope n_law ["script"] (defScope s_law) := ⟨rfl, rfl, rfl, by decide +kernel, rfl, by decide +kernel, by decide +kernel⟩
theorem bt_ValueError : bootBuiltins "ValueError" = some (.type "ValueError") := by first | rfl | decide +kernel
theorem bt_bool : bootBuiltins "bool" = some (.type "bool") := by first | rfl | decide +kernel
theorem bt_tuple : bootBuiltins "tuple" = some (.type "tuple") := by first | rfl | decide +kernel
section
variable {P : Program} {w : World} {K : PySem.W.Frag} {mg : Str → Option Value} {base : Heap} {f : Addr} {fd : FuncData}
theorem ok_law_s_tuples (F : FunD K "_law_s_tuples" "_law_s_tuples" (defArgs s_law_s_tuples) (defBody s_law_s_tuples) (defScope s_law_s_tuples) [] [] f fd) (nb : ∀ x ∈ bnames, mg x = none) : FnG P w K mg base 1 f fd ["count", "many"] sp_law_s_tuples :=
  fn_by (body := b_law_s_tuples) F sc_law_s_tuples (by decide +kernel) ExcW.nil nb (by simp only [NdSs, NdS, NdE, NdL, NdO, NdI, b_law_s_tuples, b_law_s_tuples_3, b_law_s_tuples_4, and_self]) (fun ds g Q W h => by
    repeat (first | (obtain ⟨rfl, h⟩ := h; rfl) | obtain ⟨_, h⟩ := h)) (w_law_s_tuples)
theorem ok_law_sholds (F : FunD K "_law_sholds" "_law_sholds" (defArgs s_law_sholds) (defBody s_law_sholds) (defScope s_law_sholds) [] [] f fd) (nb : ∀ x ∈ bnames, mg x = none) : FnG P w K mg base 1 f fd ["claim", "setting"] sp_law_sholds :=
  fn_by (body := b_law_sholds) F sc_law_sholds (by decide +kernel) ExcW.nil nb (by simp only [NdSs, NdS, NdE, NdL, NdO, NdI, b_law_sholds, and_self]) (fun ds g Q W h => by
    repeat (first | (obtain ⟨rfl, h⟩ := h; rfl) | obtain ⟨_, h⟩ := h)) (w_law_sholds)
theorem ok_law_sall_hold (F : FunD K "_law_sall_hold" "_law_sall_hold" (defArgs s_law_sall_hold) (defBody s_law_sall_hold) (defScope s_law_sall_hold) [] [] f fd) (nb : ∀ x ∈ bnames, mg x = none) (h0 : FnIn ⟨P, w, K, mg, base⟩ 1 "_law_sholds" sp_law_sholds) : FnG P w K mg base 2 f fd ["claims", "setting"] sp_law_sall_hold :=
  fn_by (body := b_law_sall_hold) F sc_law_sall_hold (by decide +kernel) ExcW.nil nb (by simp only [NdSs, NdS, NdE, NdL, NdO, NdI, b_law_sall_hold, h0, and_self]) (fun ds g Q W h => by
    repeat (first | (obtain ⟨rfl, h⟩ := h; rfl) | obtain ⟨_, h⟩ := h)) (w_law_sall_hold)
theorem ok_law_sis_setting (F : FunD K "_law_sis_setting" "_law_sis_setting" (defArgs s_law_sis_setting) (defBody s_law_sis_setting) (defScope s_law_sis_setting) [] [] f fd) (nb : ∀ x ∈ bnames, mg x = none) (e_bool : mg "bool" = none) (e_tuple : mg "tuple" = none) : FnG P w K mg base 1 f fd ["thing"] sp_law_sis_setting :=
  fn_by (body := b_law_sis_setting) F sc_law_sis_setting (by decide +kernel) ExcW.nil nb (by simp only [NdSs, NdS, NdE, NdL, NdO, NdI, b_law_sis_setting, b_law_sis_setting_3, e_bool, bt_bool, e_tuple, bt_tuple, and_self]) (fun ds g Q W h => by
    repeat (first | (obtain ⟨rfl, h⟩ := h; rfl) | obtain ⟨_, h⟩ := h)) (w_law_sis_setting)
theorem ok_law_sis_against (F : FunD K "_law_sis_against" "_law_sis_against" (defArgs s_law_sis_against) (defBody s_law_sis_against) (defScope s_law_sis_against) [] [] f fd) (nb : ∀ x ∈ bnames, mg x = none) (h0 : FnIn ⟨P, w, K, mg, base⟩ 2 "_law_sall_hold" sp_law_sall_hold) (h1 : FnIn ⟨P, w, K, mg, base⟩ 2 "_law_sholds" sp_law_sholds) (h2 : FnIn ⟨P, w, K, mg, base⟩ 2 "_law_sis_setting" sp_law_sis_setting) : FnG P w K mg base 3 f fd ["claims", "claim", "setting"] sp_law_sis_against :=
  fn_by (body := b_law_sis_against) F sc_law_sis_against (by decide +kernel) ExcW.nil nb (by simp only [NdSs, NdS, NdE, NdL, NdO, NdI, b_law_sis_against, b_law_sis_against_3, h0, h1, h2, and_self]) (fun ds g Q W h => by
    repeat (first | (obtain ⟨rfl, h⟩ := h; rfl) | obtain ⟨_, h⟩ := h)) (w_law_sis_against)
theorem ok_law_sthose (F : FunD K "_law_sthose" "_law_sthose" (defArgs s_law_sthose) (defBody s_law_sthose) (defScope s_law_sthose) [] [] f fd) (nb : ∀ x ∈ bnames, mg x = none) : FnG P w K mg base 1 f fd ["book", "numbers"] sp_law_sthose :=
  fn_by (body := b_law_sthose) F sc_law_sthose (by decide +kernel) ExcW.nil nb (by simp only [NdSs, NdS, NdE, NdL, NdO, NdI, b_law_sthose, and_self]) (fun ds g Q W h => by
    repeat (first | (obtain ⟨rfl, h⟩ := h; rfl) | obtain ⟨_, h⟩ := h)) (w_law_sthose)
theorem ok_law_s_due (F : FunD K "_law_s_due" "_law_s_due" (defArgs s_law_s_due) (defBody s_law_s_due) (defScope s_law_s_due) [] [] f fd) (nb : ∀ x ∈ bnames, mg x = none) (h0 : FnIn ⟨P, w, K, mg, base⟩ 3 "_law_s_tuples" sp_law_s_tuples) (h1 : FnIn ⟨P, w, K, mg, base⟩ 3 "_law_sis_against" sp_law_sis_against) (h2 : FnIn ⟨P, w, K, mg, base⟩ 3 "_law_sthose" sp_law_sthose) : FnG P w K mg base 4 f fd ["book", "claim", "many", "table"] sp_law_s_due :=
  fn_by (body := b_law_s_due) F sc_law_s_due (by decide +kernel) ExcW.nil nb (by simp only [NdSs, NdS, NdE, NdL, NdO, NdI, b_law_s_due, b_law_s_due_2, b_law_s_due_4, h0, h1, h2, and_self]) (fun ds g Q W h => by
    repeat (first | (obtain ⟨rfl, h⟩ := h; rfl) | obtain ⟨_, h⟩ := h)) (w_law_s_due)
theorem ok_law_severy (F : FunD K "_law_severy" "_law_severy" (defArgs s_law_severy) (defBody s_law_severy) (defScope s_law_severy) [] [] f fd) (nb : ∀ x ∈ bnames, mg x = none) : FnG P w K mg base 1 f fd ["things"] sp_law_severy :=
  fn_by (body := b_law_severy) F sc_law_severy (by decide +kernel) ExcW.nil nb (by simp only [NdSs, NdS, NdE, NdL, NdO, NdI, b_law_severy, b_law_severy_3, and_self]) (fun ds g Q W h => by
    repeat (first | (obtain ⟨rfl, h⟩ := h; rfl) | obtain ⟨_, h⟩ := h)) (w_law_severy)
theorem ok_law_sagainst (F : FunD K "_law_sagainst" "_law_sagainst" (defArgs s_law_sagainst) (defBody s_law_sagainst) (defScope s_law_sagainst) [] [] f fd) (nb : ∀ x ∈ bnames, mg x = none) (h0 : FnIn ⟨P, w, K, mg, base⟩ 2 "_law_sall_hold" sp_law_sall_hold) (h1 : FnIn ⟨P, w, K, mg, base⟩ 2 "_law_severy" sp_law_severy) (h2 : FnIn ⟨P, w, K, mg, base⟩ 2 "_law_sholds" sp_law_sholds) : FnG P w K mg base 3 f fd ["claims", "claim", "things"] sp_law_sagainst :=
  fn_by (body := b_law_sagainst) F sc_law_sagainst (by decide +kernel) ExcW.nil nb (by simp only [NdSs, NdS, NdE, NdL, NdO, NdI, b_law_sagainst, b_law_sagainst_2, h0, h1, h2, and_self]) (fun ds g Q W h => by
    repeat (first | (obtain ⟨rfl, h⟩ := h; rfl) | obtain ⟨_, h⟩ := h)) (w_law_sagainst)
theorem ok_law_smixed (F : FunD K "_law_smixed" "_law_smixed" (defArgs s_law_smixed) (defBody s_law_smixed) (defScope s_law_smixed) [] [] f fd) (nb : ∀ x ∈ bnames, mg x = none) : FnG P w K mg base 1 f fd ["cell", "at"] sp_law_smixed :=
  fn_by (body := b_law_smixed) F sc_law_smixed (by decide +kernel) ExcW.nil nb (by simp only [NdSs, NdS, NdE, NdL, NdO, NdI, b_law_smixed, and_self]) (fun ds g Q W h => by
    repeat (first | (obtain ⟨rfl, h⟩ := h; rfl) | obtain ⟨_, h⟩ := h)) (w_law_smixed)
theorem ok_law_sdraw (F : FunD K "_law_sdraw" "_law_sdraw" (defArgs s_law_sdraw) (defBody s_law_sdraw) (defScope s_law_sdraw) [] [] f fd) (nb : ∀ x ∈ bnames, mg x = none) (h0 : FnIn ⟨P, w, K, mg, base⟩ 1 "_law_smixed" sp_law_smixed) : FnG P w K mg base 2 f fd ["feed", "many"] sp_law_sdraw :=
  fn_by (body := b_law_sdraw) F sc_law_sdraw (by decide +kernel) ExcW.nil nb (by simp only [NdSs, NdS, NdE, NdL, NdO, NdI, b_law_sdraw, b_law_sdraw_10, b_law_sdraw_6, h0, and_self]) (fun ds g Q W h => by
    repeat (first | (obtain ⟨rfl, h⟩ := h; rfl) | obtain ⟨_, h⟩ := h)) (w_law_sdraw)
theorem ok_law_ssetting (F : FunD K "_law_ssetting" "_law_ssetting" (defArgs s_law_ssetting) (defBody s_law_ssetting) (defScope s_law_ssetting) [] [] f fd) (nb : ∀ x ∈ bnames, mg x = none) (h0 : FnIn ⟨P, w, K, mg, base⟩ 2 "_law_sdraw" sp_law_sdraw) : FnG P w K mg base 3 f fd ["feed"] sp_law_ssetting :=
  fn_by (body := b_law_ssetting) F sc_law_ssetting (by decide +kernel) ExcW.nil nb (by simp only [NdSs, NdS, NdE, NdL, NdO, NdI, b_law_ssetting, h0, and_self]) (fun ds g Q W h => by
    repeat (first | (obtain ⟨rfl, h⟩ := h; rfl) | obtain ⟨_, h⟩ := h)) (w_law_ssetting)
theorem ok_law_s_tables (F : FunD K "_law_s_tables" "_law_s_tables" (defArgs s_law_s_tables) (defBody s_law_s_tables) (defScope s_law_s_tables) [] [] f fd) (nb : ∀ x ∈ bnames, mg x = none) (h0 : FnIn ⟨P, w, K, mg, base⟩ 3 "_law_s_tuples" sp_law_s_tuples) (h1 : FnIn ⟨P, w, K, mg, base⟩ 3 "_law_sagainst" sp_law_sagainst) (h2 : FnIn ⟨P, w, K, mg, base⟩ 3 "_law_sdraw" sp_law_sdraw) (h3 : FnIn ⟨P, w, K, mg, base⟩ 3 "_law_ssetting" sp_law_ssetting) (h4 : FnIn ⟨P, w, K, mg, base⟩ 3 "_law_sthose" sp_law_sthose) : FnG P w K mg base 4 f fd ["feed", "book", "claim", "every", "many"] sp_law_s_tables :=
  fn_by (body := b_law_s_tables) F sc_law_s_tables (by decide +kernel) ExcW.nil nb (by simp only [NdSs, NdS, NdE, NdL, NdO, NdI, b_law_s_tables, b_law_s_tables_14, b_law_s_tables_16, b_law_s_tables_20, b_law_s_tables_22, b_law_s_tables_3, b_law_s_tables_4, b_law_s_tables_5, b_law_s_tables_7, h0, h1, h2, h3, h4, and_self]) (fun ds g Q W h => by
    repeat (first | (obtain ⟨rfl, h⟩ := h; rfl) | obtain ⟨_, h⟩ := h)) (w_law_s_tables)
theorem ok_law_sclaim (F : FunD K "_law_sclaim" "_law_sclaim" (defArgs s_law_sclaim) (defBody s_law_sclaim) (defScope s_law_sclaim) [] [] f fd) (nb : ∀ x ∈ bnames, mg x = none) (h0 : FnIn ⟨P, w, K, mg, base⟩ 2 "_law_sdraw" sp_law_sdraw) : FnG P w K mg base 3 f fd ["feed", "things", "most"] sp_law_sclaim :=
  fn_by (body := b_law_sclaim) F sc_law_sclaim (by decide +kernel) ExcW.nil nb (by simp only [NdSs, NdS, NdE, NdL, NdO, NdI, b_law_sclaim, b_law_sclaim_4, b_law_sclaim_6, h0, and_self]) (fun ds g Q W h => by
    repeat (first | (obtain ⟨rfl, h⟩ := h; rfl) | obtain ⟨_, h⟩ := h)) (w_law_sclaim)
theorem ok_law_sbook (F : FunD K "_law_sbook" "_law_sbook" (defArgs s_law_sbook) (defBody s_law_sbook) (defScope s_law_sbook) [] [] f fd) (nb : ∀ x ∈ bnames, mg x = none) (h0 : FnIn ⟨P, w, K, mg, base⟩ 3 "_law_sclaim" sp_law_sclaim) (h1 : FnIn ⟨P, w, K, mg, base⟩ 3 "_law_sdraw" sp_law_sdraw) : FnG P w K mg base 4 f fd ["feed", "things", "most"] sp_law_sbook :=
  fn_by (body := b_law_sbook) F sc_law_sbook (by decide +kernel) ExcW.nil nb (by simp only [NdSs, NdS, NdE, NdL, NdO, NdI, b_law_sbook, b_law_sbook_3, b_law_sbook_6, b_law_sbook_7, h0, h1, and_self]) (fun ds g Q W h => by
    repeat (first | (obtain ⟨rfl, h⟩ := h; rfl) | obtain ⟨_, h⟩ := h)) (w_law_sbook)
theorem ok_law_sopen (F : FunD K "_law_sopen" "_law_sopen" (defArgs s_law_sopen) (defBody s_law_sopen) (defScope s_law_sopen) [] [] f fd) (nb : ∀ x ∈ bnames, mg x = none) : FnG P w K mg base 1 f fd ["script"] sp_law_sopen :=
  fn_by (body := b_law_sopen) F sc_law_sopen (by decide +kernel) ExcW.nil nb (by simp only [NdSs, NdS, NdE, NdL, NdO, NdI, b_law_sopen, and_self]) (fun ds g Q W h => by
    repeat (first | (obtain ⟨rfl, h⟩ := h; rfl) | obtain ⟨_, h⟩ := h)) (w_law_sopen)
theorem ok_holds (F : FunD K "holds" "holds" (defArgs s_holds) (defBody s_holds) (defScope s_holds) [] [] f fd) (nb : ∀ x ∈ bnames, mg x = none) : FnG P w K mg base 1 f fd ["claim", "setting"] sp_holds :=
  fn_by (body := b_holds) F sc_holds (by decide +kernel) ExcW.nil nb (by simp only [NdSs, NdS, NdE, NdL, NdO, NdI, b_holds, and_self]) (fun ds g Q W h => by
    repeat (first | (obtain ⟨rfl, h⟩ := h; rfl) | obtain ⟨_, h⟩ := h)) (w_holds)
theorem ok_failing (F : FunD K "failing" "failing" (defArgs s_failing) (defBody s_failing) (defScope s_failing) [] [] f fd) (nb : ∀ x ∈ bnames, mg x = none) (h0 : FnIn ⟨P, w, K, mg, base⟩ 1 "holds" sp_holds) : FnG P w K mg base 2 f fd ["book", "setting"] sp_failing :=
  fn_by (body := b_failing) F sc_failing (by decide +kernel) ExcW.nil nb (by simp only [NdSs, NdS, NdE, NdL, NdO, NdI, b_failing, h0, and_self]) (fun ds g Q W h => by
    repeat (first | (obtain ⟨rfl, h⟩ := h; rfl) | obtain ⟨_, h⟩ := h)) (w_failing)
theorem ok_need_few (F : FunD K "need_few" "need_few" (defArgs s_need_few) (defBody s_need_few) (defScope s_need_few) [] [] f fd) (nb : ∀ x ∈ bnames, mg x = none) (q_MOST_LOOKED : GlIn ⟨P, w, K, mg, base⟩ "MOST_LOOKED" (.int 10)) (z_TooMany : RzIn ⟨P, w, K, mg, base⟩ "TooMany") : FnG P w K mg base 1 f fd ["book"] sp_need_few :=
  fn_by (body := b_need_few) F sc_need_few (by decide +kernel) ExcW.nil nb (by simp only [NdSs, NdS, NdE, NdL, NdO, NdI, b_need_few, q_MOST_LOOKED, z_TooMany, and_self]) (fun ds g Q W h => by
    repeat (first | (obtain ⟨rfl, h⟩ := h; rfl) | obtain ⟨_, h⟩ := h)) (w_need_few)
theorem ok_those (F : FunD K "those" "those" (defArgs s_those) (defBody s_those) (defScope s_those) [] [] f fd) (nb : ∀ x ∈ bnames, mg x = none) : FnG P w K mg base 1 f fd ["book", "numbers"] sp_those :=
  fn_by (body := b_those) F sc_those (by decide +kernel) ExcW.nil nb (by simp only [NdSs, NdS, NdE, NdL, NdO, NdI, b_those, and_self]) (fun ds g Q W h => by
    repeat (first | (obtain ⟨rfl, h⟩ := h; rfl) | obtain ⟨_, h⟩ := h)) (w_those)
theorem ok_tuples_of (F : FunD K "tuples_of" "tuples_of" (defArgs s_tuples_of) (defBody s_tuples_of) (defScope s_tuples_of) [] [] f fd) (nb : ∀ x ∈ bnames, mg x = none) : FnG P w K mg base 1 f fd ["count", "many"] sp_tuples_of :=
  fn_by (body := b_tuples_of) F sc_tuples_of (by decide +kernel) ExcW.nil nb (by simp only [NdSs, NdS, NdE, NdL, NdO, NdI, b_tuples_of, b_tuples_of_3, b_tuples_of_5, b_tuples_of_7, and_self]) (fun ds g Q W h => by
    repeat (first | (obtain ⟨rfl, h⟩ := h; rfl) | obtain ⟨_, h⟩ := h)) (w_tuples_of)
theorem ok_shows_needed (F : FunD K "shows_needed" "shows_needed" (defArgs s_shows_needed) (defBody s_shows_needed) (defScope s_shows_needed) [] [] f fd) (nb : ∀ x ∈ bnames, mg x = none) (h0 : FnIn ⟨P, w, K, mg, base⟩ 2 "failing" sp_failing) (h1 : FnIn ⟨P, w, K, mg, base⟩ 2 "holds" sp_holds) (h2 : FnIn ⟨P, w, K, mg, base⟩ 2 "need_few" sp_need_few) (h3 : FnIn ⟨P, w, K, mg, base⟩ 2 "those" sp_those) (h4 : FnIn ⟨P, w, K, mg, base⟩ 2 "tuples_of" sp_tuples_of) : FnG P w K mg base 3 f fd ["book", "claim", "many", "table"] sp_shows_needed :=
  fn_by (body := b_shows_needed) F sc_shows_needed (by decide +kernel) ExcW.nil nb (by simp only [NdSs, NdS, NdE, NdL, NdO, NdI, b_shows_needed, b_shows_needed_2, b_shows_needed_3, b_shows_needed_5, h0, h1, h2, h3, h4, and_self]) (fun ds g Q W h => by
    repeat (first | (obtain ⟨rfl, h⟩ := h; rfl) | obtain ⟨_, h⟩ := h)) (w_shows_needed)
theorem ok_law_srefused (F : FunD K "_law_srefused" "_law_srefused" (defArgs s_law_srefused) (defBody s_law_srefused) (defScope s_law_srefused) [] [] f fd) (nb : ∀ x ∈ bnames, mg x = none) (h0 : FnIn ⟨P, w, K, mg, base⟩ 3 "shows_needed" sp_shows_needed) (e_ValueError : mg "ValueError" = none) (q_NoBack : GlIn ⟨P, w, K, mg, base⟩ "NoBack" (.gl "NoBack")) (q_NoCut : GlIn ⟨P, w, K, mg, base⟩ "NoCut" (.gl "NoCut")) (q_NoInstead : GlIn ⟨P, w, K, mg, base⟩ "NoInstead" (.gl "NoInstead")) (q_NoLadder : GlIn ⟨P, w, K, mg, base⟩ "NoLadder" (.gl "NoLadder")) (q_NoRow : GlIn ⟨P, w, K, mg, base⟩ "NoRow" (.gl "NoRow")) (q_NoTelling : GlIn ⟨P, w, K, mg, base⟩ "NoTelling" (.gl "NoTelling")) (q_NoText : GlIn ⟨P, w, K, mg, base⟩ "NoText" (.gl "NoText")) (q_TooGreat : GlIn ⟨P, w, K, mg, base⟩ "TooGreat" (.gl "TooGreat")) (q_TooMany : GlIn ⟨P, w, K, mg, base⟩ "TooMany" (.gl "TooMany")) (k_SpareError : ClIn ⟨P, w, K, mg, base⟩ "SpareError") (eX : ExcW K exN) : FnG P w K mg base 4 f fd ["act"] (sp_law_srefused tab) :=
  fn_by (body := b_law_srefused tab) F sc_law_srefused (by decide +kernel) eX nb (by simp only [NdSs, NdS, NdE, NdL, NdO, NdI, b_law_srefused, b_law_srefused_12, b_law_srefused_13, b_law_srefused_15, b_law_srefused_22, b_law_srefused_3, h0, e_ValueError, bt_ValueError, q_NoBack, q_NoCut, q_NoInstead, q_NoLadder, q_NoRow, q_NoTelling, q_NoText, q_TooGreat, q_TooMany, k_SpareError, TabIn, tab, and_self]) (fun ds g Q W h => by
    repeat (first | (obtain ⟨rfl, h⟩ := h; rfl) | obtain ⟨_, h⟩ := h)) (w_law_srefused tab)
theorem ok_law_sthings (F : FunD K "_law_sthings" "_law_sthings" (defArgs s_law_sthings) (defBody s_law_sthings) (defScope s_law_sthings) [] [] f fd) (nb : ∀ x ∈ bnames, mg x = none) (h0 : FnIn ⟨P, w, K, mg, base⟩ 2 "_law_sdraw" sp_law_sdraw) : FnG P w K mg base 3 f fd ["feed", "least", "most"] sp_law_sthings :=
  fn_by (body := b_law_sthings) F sc_law_sthings (by decide +kernel) ExcW.nil nb (by simp only [NdSs, NdS, NdE, NdL, NdO, NdI, b_law_sthings, b_law_sthings_5, h0, and_self]) (fun ds g Q W h => by
    repeat (first | (obtain ⟨rfl, h⟩ := h; rfl) | obtain ⟨_, h⟩ := h)) (w_law_sthings)
theorem ok_law (F : FunD K "law" "law" (defArgs s_law) (defBody s_law) (defScope s_law) [] [] f fd) (nb : ∀ x ∈ bnames, mg x = none) (h0 : FnIn ⟨P, w, K, mg, base⟩ 4 "_law_s_due" sp_law_s_due) (h1 : FnIn ⟨P, w, K, mg, base⟩ 4 "_law_s_tables" sp_law_s_tables) (h2 : FnIn ⟨P, w, K, mg, base⟩ 4 "_law_sbook" sp_law_sbook) (h3 : FnIn ⟨P, w, K, mg, base⟩ 4 "_law_sclaim" sp_law_sclaim) (h4 : FnIn ⟨P, w, K, mg, base⟩ 4 "_law_sdraw" sp_law_sdraw) (h5 : FnIn ⟨P, w, K, mg, base⟩ 4 "_law_sopen" sp_law_sopen) (h6 : FnIn ⟨P, w, K, mg, base⟩ 4 "_law_srefused" (sp_law_srefused tab)) (h7 : FnIn ⟨P, w, K, mg, base⟩ 4 "_law_sthings" sp_law_sthings) (h8 : FnIn ⟨P, w, K, mg, base⟩ 4 "shows_needed" sp_shows_needed) (e_bool : mg "bool" = none) (q_shows_needed : GlIn ⟨P, w, K, mg, base⟩ "shows_needed" (.gl "shows_needed")) : FnG P w K mg base 5 f fd ["script"] sp_law :=
  fn_by (body := b_law) F sc_law (by decide +kernel) ExcW.nil nb (by simp only [NdSs, NdS, NdE, NdL, NdO, NdI, b_law, b_law_10, b_law_12, b_law_14, b_law_15, b_law_16, b_law_17, b_law_18, b_law_19, b_law_2, b_law_21, b_law_22, b_law_23, b_law_24, b_law_25, b_law_28, b_law_3, b_law_4, b_law_5, b_law_6, b_law_7, b_law_8, h0, h1, h2, h3, h4, h5, h6, h7, h8, e_bool, bt_bool, q_shows_needed, and_self]) (fun ds g Q W h => by
    repeat (first | (obtain ⟨rfl, h⟩ := h; rfl) | obtain ⟨_, h⟩ := h)) (w_law)
end
theorem facts {P : Program} {w : World} {K : PySem.W.Frag} {h : Heap} {mg : Str → Option Value} {f : Addr} (X : K.In h) (G : h.Ns mainGlobals mg) (hfa : mg ("law" : Str) = some (.ref f)) (c0 : SaysX xb fa fn K) :
    ∃ fd : FuncData, (∀ (s : Shared) (v : Value), BindsTo s fd ⟨[v], []⟩ [("script", v)]) ∧ ∀ base : Heap, K.In base → base.Ns mainGlobals mg → FnG P w K mg base 5 f fd ["script"] sp_law := by
  have c := c0.d
  have eX : ExcW K exN := exB_ok (c0.x _ List.mem_cons_self)
  obtain ⟨fd_law_s_tuples, F_law_s_tuples⟩ := c.def_ 0 (d := d_law_s_tuples) rfl
  obtain ⟨fd_law_sholds, F_law_sholds⟩ := c.def_ 1 (d := d_law_sholds) rfl
  obtain ⟨fd_law_sall_hold, F_law_sall_hold⟩ := c.def_ 2 (d := d_law_sall_hold) rfl
  obtain ⟨fd_law_sis_setting, F_law_sis_setting⟩ := c.def_ 3 (d := d_law_sis_setting) rfl
  obtain ⟨fd_law_sis_against, F_law_sis_against⟩ := c.def_ 4 (d := d_law_sis_against) rfl
  obtain ⟨fd_law_sthose, F_law_sthose⟩ := c.def_ 5 (d := d_law_sthose) rfl
  obtain ⟨fd_law_s_due, F_law_s_due⟩ := c.def_ 6 (d := d_law_s_due) rfl
  obtain ⟨fd_law_severy, F_law_severy⟩ := c.def_ 7 (d := d_law_severy) rfl
  obtain ⟨fd_law_sagainst, F_law_sagainst⟩ := c.def_ 8 (d := d_law_sagainst) rfl
  obtain ⟨fd_law_smixed, F_law_smixed⟩ := c.def_ 9 (d := d_law_smixed) rfl
  obtain ⟨fd_law_sdraw, F_law_sdraw⟩ := c.def_ 10 (d := d_law_sdraw) rfl
  obtain ⟨fd_law_ssetting, F_law_ssetting⟩ := c.def_ 11 (d := d_law_ssetting) rfl
  obtain ⟨fd_law_s_tables, F_law_s_tables⟩ := c.def_ 12 (d := d_law_s_tables) rfl
  obtain ⟨fd_law_sclaim, F_law_sclaim⟩ := c.def_ 13 (d := d_law_sclaim) rfl
  obtain ⟨fd_law_sbook, F_law_sbook⟩ := c.def_ 14 (d := d_law_sbook) rfl
  obtain ⟨fd_law_sopen, F_law_sopen⟩ := c.def_ 15 (d := d_law_sopen) rfl
  obtain ⟨fd_holds, F_holds⟩ := c.def_ 16 (d := d_holds) rfl
  obtain ⟨fd_failing, F_failing⟩ := c.def_ 17 (d := d_failing) rfl
  obtain ⟨fd_need_few, F_need_few⟩ := c.def_ 18 (d := d_need_few) rfl
  obtain ⟨fd_those, F_those⟩ := c.def_ 19 (d := d_those) rfl
  obtain ⟨fd_tuples_of, F_tuples_of⟩ := c.def_ 20 (d := d_tuples_of) rfl
  obtain ⟨fd_shows_needed, F_shows_needed⟩ := c.def_ 21 (d := d_shows_needed) rfl
  obtain ⟨fd_law_srefused, F_law_srefused⟩ := c.def_ 22 (d := d_law_srefused) rfl
  obtain ⟨fd_law_sthings, F_law_sthings⟩ := c.def_ 23 (d := d_law_sthings) rfl
  obtain ⟨fd_law, F_law⟩ := c.def_ 24 (d := d_law) rfl
  have g_law_s_tuples := He.glo_ok X G (c.fact 0 (f := .glo "_law_s_tuples") rfl)
  have ga_law_s_tuples := gaK_of (He.eqO_ok (c.fact 0 (f := .glo "_law_s_tuples") rfl))
  have g_law_sholds := He.glo_ok X G (c.fact 1 (f := .glo "_law_sholds") rfl)
  have ga_law_sholds := gaK_of (He.eqO_ok (c.fact 1 (f := .glo "_law_sholds") rfl))
  have g_law_sall_hold := He.glo_ok X G (c.fact 2 (f := .glo "_law_sall_hold") rfl)
  have ga_law_sall_hold := gaK_of (He.eqO_ok (c.fact 2 (f := .glo "_law_sall_hold") rfl))
  have g_law_sis_setting := He.glo_ok X G (c.fact 3 (f := .glo "_law_sis_setting") rfl)
  have ga_law_sis_setting := gaK_of (He.eqO_ok (c.fact 3 (f := .glo "_law_sis_setting") rfl))
  have g_law_sis_against := He.glo_ok X G (c.fact 4 (f := .glo "_law_sis_against") rfl)
  have ga_law_sis_against := gaK_of (He.eqO_ok (c.fact 4 (f := .glo "_law_sis_against") rfl))
  have g_law_sthose := He.glo_ok X G (c.fact 5 (f := .glo "_law_sthose") rfl)
  have ga_law_sthose := gaK_of (He.eqO_ok (c.fact 5 (f := .glo "_law_sthose") rfl))
  have g_law_s_due := He.glo_ok X G (c.fact 6 (f := .glo "_law_s_due") rfl)
  have ga_law_s_due := gaK_of (He.eqO_ok (c.fact 6 (f := .glo "_law_s_due") rfl))
  have g_law_severy := He.glo_ok X G (c.fact 7 (f := .glo "_law_severy") rfl)
  have ga_law_severy := gaK_of (He.eqO_ok (c.fact 7 (f := .glo "_law_severy") rfl))
  have g_law_sagainst := He.glo_ok X G (c.fact 8 (f := .glo "_law_sagainst") rfl)
  have ga_law_sagainst := gaK_of (He.eqO_ok (c.fact 8 (f := .glo "_law_sagainst") rfl))
  have g_law_smixed := He.glo_ok X G (c.fact 9 (f := .glo "_law_smixed") rfl)
  have ga_law_smixed := gaK_of (He.eqO_ok (c.fact 9 (f := .glo "_law_smixed") rfl))
  have g_law_sdraw := He.glo_ok X G (c.fact 10 (f := .glo "_law_sdraw") rfl)
  have ga_law_sdraw := gaK_of (He.eqO_ok (c.fact 10 (f := .glo "_law_sdraw") rfl))
  have g_law_ssetting := He.glo_ok X G (c.fact 11 (f := .glo "_law_ssetting") rfl)
  have ga_law_ssetting := gaK_of (He.eqO_ok (c.fact 11 (f := .glo "_law_ssetting") rfl))
  have g_law_s_tables := He.glo_ok X G (c.fact 12 (f := .glo "_law_s_tables") rfl)
  have ga_law_s_tables := gaK_of (He.eqO_ok (c.fact 12 (f := .glo "_law_s_tables") rfl))
  have g_law_sclaim := He.glo_ok X G (c.fact 13 (f := .glo "_law_sclaim") rfl)
  have ga_law_sclaim := gaK_of (He.eqO_ok (c.fact 13 (f := .glo "_law_sclaim") rfl))
  have g_law_sbook := He.glo_ok X G (c.fact 14 (f := .glo "_law_sbook") rfl)
  have ga_law_sbook := gaK_of (He.eqO_ok (c.fact 14 (f := .glo "_law_sbook") rfl))
  have g_law_sopen := He.glo_ok X G (c.fact 15 (f := .glo "_law_sopen") rfl)
  have ga_law_sopen := gaK_of (He.eqO_ok (c.fact 15 (f := .glo "_law_sopen") rfl))
  have g_holds := He.glo_ok X G (c.fact 16 (f := .glo "holds") rfl)
  have ga_holds := gaK_of (He.eqO_ok (c.fact 16 (f := .glo "holds") rfl))
  have g_failing := He.glo_ok X G (c.fact 17 (f := .glo "failing") rfl)
  have ga_failing := gaK_of (He.eqO_ok (c.fact 17 (f := .glo "failing") rfl))
  have g_need_few := He.glo_ok X G (c.fact 18 (f := .glo "need_few") rfl)
  have ga_need_few := gaK_of (He.eqO_ok (c.fact 18 (f := .glo "need_few") rfl))
  have g_those := He.glo_ok X G (c.fact 19 (f := .glo "those") rfl)
  have ga_those := gaK_of (He.eqO_ok (c.fact 19 (f := .glo "those") rfl))
  have g_tuples_of := He.glo_ok X G (c.fact 20 (f := .glo "tuples_of") rfl)
  have ga_tuples_of := gaK_of (He.eqO_ok (c.fact 20 (f := .glo "tuples_of") rfl))
  have g_shows_needed := He.glo_ok X G (c.fact 21 (f := .glo "shows_needed") rfl)
  have ga_shows_needed := gaK_of (He.eqO_ok (c.fact 21 (f := .glo "shows_needed") rfl))
  have g_law_srefused := He.glo_ok X G (c.fact 22 (f := .glo "_law_srefused") rfl)
  have ga_law_srefused := gaK_of (He.eqO_ok (c.fact 22 (f := .glo "_law_srefused") rfl))
  have g_law_sthings := He.glo_ok X G (c.fact 23 (f := .glo "_law_sthings") rfl)
  have ga_law_sthings := gaK_of (He.eqO_ok (c.fact 23 (f := .glo "_law_sthings") rfl))
  have e_len := He.free_ok X G (c.fact 25 (f := .free "len") rfl)
  have e_all := He.free_ok X G (c.fact 26 (f := .free "all") rfl)
  have e_any := He.free_ok X G (c.fact 27 (f := .free "any") rfl)
  have e_abs := He.free_ok X G (c.fact 28 (f := .free "abs") rfl)
  have e_min := He.free_ok X G (c.fact 29 (f := .free "min") rfl)
  have e_max := He.free_ok X G (c.fact 30 (f := .free "max") rfl)
  have e_sorted := He.free_ok X G (c.fact 31 (f := .free "sorted") rfl)
  have e_list := He.free_ok X G (c.fact 32 (f := .free "list") rfl)
  have e_tuple := He.free_ok X G (c.fact 33 (f := .free "tuple") rfl)
  have e_int := He.free_ok X G (c.fact 34 (f := .free "int") rfl)
  have e_isinstance := He.free_ok X G (c.fact 35 (f := .free "isinstance") rfl)
  have e_str := He.free_ok X G (c.fact 36 (f := .free "str") rfl)
  have e_range := He.free_ok X G (c.fact 37 (f := .free "range") rfl)
  have e_repr := He.free_ok X G (c.fact 38 (f := .free "repr") rfl)
  have e_enumerate := He.free_ok X G (c.fact 39 (f := .free "enumerate") rfl)
  have e_set := He.free_ok X G (c.fact 40 (f := .free "set") rfl)
  have e_zip := He.free_ok X G (c.fact 41 (f := .free "zip") rfl)
  have e_reversed := He.free_ok X G (c.fact 42 (f := .free "reversed") rfl)
  have e_dict := He.free_ok X G (c.fact 43 (f := .free "dict") rfl)
  have e_ValueError := He.free_ok X G (c.fact 44 (f := .free "ValueError") rfl)
  have e_bool := He.free_ok X G (c.fact 45 (f := .free "bool") rfl)
  have nb : ∀ x ∈ bnames, mg x = none := by
    intro x hx
    simp only [bnames, List.mem_cons, List.not_mem_nil, or_false] at hx
    rcases hx with rfl | rfl | rfl | rfl | rfl | rfl | rfl | rfl | rfl | rfl | rfl | rfl | rfl | rfl | rfl | rfl | rfl | rfl | rfl
    · exact e_len
    · exact e_all
    · exact e_any
    · exact e_abs
    · exact e_min
    · exact e_max
    · exact e_sorted
    · exact e_list
    · exact e_tuple
    · exact e_int
    · exact e_isinstance
    · exact e_str
    · exact e_range
    · exact e_repr
    · exact e_enumerate
    · exact e_set
    · exact e_zip
    · exact e_reversed
    · exact e_dict
  have g_NoBack := He.glo_ok X G (c.fact 47 (f := .glo "NoBack") rfl)
  have ga_NoBack := gaK_of (He.eqO_ok (c.fact 47 (f := .glo "NoBack") rfl))
  have g_NoCut := He.glo_ok X G (c.fact 48 (f := .glo "NoCut") rfl)
  have ga_NoCut := gaK_of (He.eqO_ok (c.fact 48 (f := .glo "NoCut") rfl))
  have g_NoInstead := He.glo_ok X G (c.fact 49 (f := .glo "NoInstead") rfl)
  have ga_NoInstead := gaK_of (He.eqO_ok (c.fact 49 (f := .glo "NoInstead") rfl))
  have g_NoLadder := He.glo_ok X G (c.fact 50 (f := .glo "NoLadder") rfl)
  have ga_NoLadder := gaK_of (He.eqO_ok (c.fact 50 (f := .glo "NoLadder") rfl))
  have g_NoRow := He.glo_ok X G (c.fact 51 (f := .glo "NoRow") rfl)
  have ga_NoRow := gaK_of (He.eqO_ok (c.fact 51 (f := .glo "NoRow") rfl))
  have g_NoTelling := He.glo_ok X G (c.fact 52 (f := .glo "NoTelling") rfl)
  have ga_NoTelling := gaK_of (He.eqO_ok (c.fact 52 (f := .glo "NoTelling") rfl))
  have g_NoText := He.glo_ok X G (c.fact 53 (f := .glo "NoText") rfl)
  have ga_NoText := gaK_of (He.eqO_ok (c.fact 53 (f := .glo "NoText") rfl))
  have g_SpareError := He.glo_ok X G (c.fact 54 (f := .glo "SpareError") rfl)
  have ga_SpareError := gaK_of (He.eqO_ok (c.fact 54 (f := .glo "SpareError") rfl))
  have g_TooGreat := He.glo_ok X G (c.fact 55 (f := .glo "TooGreat") rfl)
  have ga_TooGreat := gaK_of (He.eqO_ok (c.fact 55 (f := .glo "TooGreat") rfl))
  have g_TooMany := He.glo_ok X G (c.fact 56 (f := .glo "TooMany") rfl)
  have ga_TooMany := gaK_of (He.eqO_ok (c.fact 56 (f := .glo "TooMany") rfl))
  obtain ⟨x1_TooMany, x2_TooMany, x3_TooMany, x4_TooMany⟩ := He.exc_ok (c.fact 57 (f := .exc "TooMany") rfl)
  obtain ⟨tk_MOST_LOOKED, gl_MOST_LOOKED⟩ := He.int_ok X G (c.fact 46 (f := .int "MOST_LOOKED" (10)) rfl)
  have B_law_s_tuples : Binds K fd_law_s_tuples ["count", "many"] [] := F_law_s_tuples.bindsN fun _ _ _ _ _ _ us hl => match us, hl with | [_, _], _ => rfl
  have B_law_sholds : Binds K fd_law_sholds ["claim", "setting"] [] := F_law_sholds.bindsN fun _ _ _ _ _ _ us hl => match us, hl with | [_, _], _ => rfl
  have B_law_sall_hold : Binds K fd_law_sall_hold ["claims", "setting"] [] := F_law_sall_hold.bindsN fun _ _ _ _ _ _ us hl => match us, hl with | [_, _], _ => rfl
  have B_law_sis_setting : Binds K fd_law_sis_setting ["thing"] [] := F_law_sis_setting.bindsN fun _ _ _ _ _ _ us hl => match us, hl with | [_], _ => rfl
  have B_law_sis_against : Binds K fd_law_sis_against ["claims", "claim", "setting"] [] := F_law_sis_against.bindsN fun _ _ _ _ _ _ us hl => match us, hl with | [_, _, _], _ => rfl
  have B_law_sthose : Binds K fd_law_sthose ["book", "numbers"] [] := F_law_sthose.bindsN fun _ _ _ _ _ _ us hl => match us, hl with | [_, _], _ => rfl
  have B_law_s_due : Binds K fd_law_s_due ["book", "claim", "many", "table"] [] := F_law_s_due.bindsN fun _ _ _ _ _ _ us hl => match us, hl with | [_, _, _, _], _ => rfl
  have B_law_severy : Binds K fd_law_severy ["things"] [] := F_law_severy.bindsN fun _ _ _ _ _ _ us hl => match us, hl with | [_], _ => rfl
  have B_law_sagainst : Binds K fd_law_sagainst ["claims", "claim", "things"] [] := F_law_sagainst.bindsN fun _ _ _ _ _ _ us hl => match us, hl with | [_, _, _], _ => rfl
  have B_law_smixed : Binds K fd_law_smixed ["cell", "at"] [] := F_law_smixed.bindsN fun _ _ _ _ _ _ us hl => match us, hl with | [_, _], _ => rfl
  have B_law_sdraw : Binds K fd_law_sdraw ["feed", "many"] [] := F_law_sdraw.bindsN fun _ _ _ _ _ _ us hl => match us, hl with | [_, _], _ => rfl
  have B_law_ssetting : Binds K fd_law_ssetting ["feed"] [] := F_law_ssetting.bindsN fun _ _ _ _ _ _ us hl => match us, hl with | [_], _ => rfl
  have B_law_s_tables : Binds K fd_law_s_tables ["feed", "book", "claim", "every", "many"] [] := F_law_s_tables.bindsN fun _ _ _ _ _ _ us hl => match us, hl with | [_, _, _, _, _], _ => rfl
  have B_law_sclaim : Binds K fd_law_sclaim ["feed", "things", "most"] [] := F_law_sclaim.bindsN fun _ _ _ _ _ _ us hl => match us, hl with | [_, _, _], _ => rfl
  have B_law_sbook : Binds K fd_law_sbook ["feed", "things", "most"] [] := F_law_sbook.bindsN fun _ _ _ _ _ _ us hl => match us, hl with | [_, _, _], _ => rfl
  have B_law_sopen : Binds K fd_law_sopen ["script"] [] := F_law_sopen.bindsN fun _ _ _ _ _ _ us hl => match us, hl with | [_], _ => rfl
  have B_holds : Binds K fd_holds ["claim", "setting"] [] := F_holds.bindsN fun _ _ _ _ _ _ us hl => match us, hl with | [_, _], _ => rfl
  have B_failing : Binds K fd_failing ["book", "setting"] [] := F_failing.bindsN fun _ _ _ _ _ _ us hl => match us, hl with | [_, _], _ => rfl
  have B_need_few : Binds K fd_need_few ["book"] [] := F_need_few.bindsN fun _ _ _ _ _ _ us hl => match us, hl with | [_], _ => rfl
  have B_those : Binds K fd_those ["book", "numbers"] [] := F_those.bindsN fun _ _ _ _ _ _ us hl => match us, hl with | [_, _], _ => rfl
  have B_tuples_of : Binds K fd_tuples_of ["count", "many"] [] := F_tuples_of.bindsN fun _ _ _ _ _ _ us hl => match us, hl with | [_, _], _ => rfl
  have B_shows_needed : Binds K fd_shows_needed ["book", "claim", "many", "table"] [] := F_shows_needed.bindsN fun _ _ _ _ _ _ us hl => match us, hl with | [_, _, _, _], _ => rfl
  have B_law_srefused : Binds K fd_law_srefused ["act"] [] := F_law_srefused.bindsN fun _ _ _ _ _ _ us hl => match us, hl with | [_], _ => rfl
  have B_law_sthings : Binds K fd_law_sthings ["feed", "least", "most"] [] := F_law_sthings.bindsN fun _ _ _ _ _ _ us hl => match us, hl with | [_, _, _], _ => rfl
  have e := hfa.symm.trans (He.glo_ok X G (c.fact 24 (f := .glo "law") rfl))
  cases e
  have b := FunD.bindsA (ps := ["script"]) F_law fun _ _ _ _ _ _ us hl => match us, hl with | [_], _ => rfl
  refine ⟨fd_law, fun s v => b s [v] rfl, fun base _ _ => ?_⟩
  have G_law_s_tuples := ok_law_s_tuples (P := P) (w := w) (base := base) F_law_s_tuples nb 
  have G_law_sholds := ok_law_sholds (P := P) (w := w) (base := base) F_law_sholds nb 
  have G_law_sall_hold := ok_law_sall_hold (P := P) (w := w) (base := base) F_law_sall_hold nb ⟨_, _, _, 1, by decide, G_law_sholds, g_law_sholds, F_law_sholds.kp, B_law_sholds, ga_law_sholds⟩
  have G_law_sis_setting := ok_law_sis_setting (P := P) (w := w) (base := base) F_law_sis_setting nb e_bool e_tuple
  have G_law_sis_against := ok_law_sis_against (P := P) (w := w) (base := base) F_law_sis_against nb ⟨_, _, _, 2, by decide, G_law_sall_hold, g_law_sall_hold, F_law_sall_hold.kp, B_law_sall_hold, ga_law_sall_hold⟩ ⟨_, _, _, 1, by decide, G_law_sholds, g_law_sholds, F_law_sholds.kp, B_law_sholds, ga_law_sholds⟩ ⟨_, _, _, 1, by decide, G_law_sis_setting, g_law_sis_setting, F_law_sis_setting.kp, B_law_sis_setting, ga_law_sis_setting⟩
  have G_law_sthose := ok_law_sthose (P := P) (w := w) (base := base) F_law_sthose nb 
  have G_law_s_due := ok_law_s_due (P := P) (w := w) (base := base) F_law_s_due nb ⟨_, _, _, 1, by decide, G_law_s_tuples, g_law_s_tuples, F_law_s_tuples.kp, B_law_s_tuples, ga_law_s_tuples⟩ ⟨_, _, _, 3, by decide, G_law_sis_against, g_law_sis_against, F_law_sis_against.kp, B_law_sis_against, ga_law_sis_against⟩ ⟨_, _, _, 1, by decide, G_law_sthose, g_law_sthose, F_law_sthose.kp, B_law_sthose, ga_law_sthose⟩
  have G_law_severy := ok_law_severy (P := P) (w := w) (base := base) F_law_severy nb 
  have G_law_sagainst := ok_law_sagainst (P := P) (w := w) (base := base) F_law_sagainst nb ⟨_, _, _, 2, by decide, G_law_sall_hold, g_law_sall_hold, F_law_sall_hold.kp, B_law_sall_hold, ga_law_sall_hold⟩ ⟨_, _, _, 1, by decide, G_law_severy, g_law_severy, F_law_severy.kp, B_law_severy, ga_law_severy⟩ ⟨_, _, _, 1, by decide, G_law_sholds, g_law_sholds, F_law_sholds.kp, B_law_sholds, ga_law_sholds⟩
  have G_law_smixed := ok_law_smixed (P := P) (w := w) (base := base) F_law_smixed nb 
  have G_law_sdraw := ok_law_sdraw (P := P) (w := w) (base := base) F_law_sdraw nb ⟨_, _, _, 1, by decide, G_law_smixed, g_law_smixed, F_law_smixed.kp, B_law_smixed, ga_law_smixed⟩
  have G_law_ssetting := ok_law_ssetting (P := P) (w := w) (base := base) F_law_ssetting nb ⟨_, _, _, 2, by decide, G_law_sdraw, g_law_sdraw, F_law_sdraw.kp, B_law_sdraw, ga_law_sdraw⟩
  have G_law_s_tables := ok_law_s_tables (P := P) (w := w) (base := base) F_law_s_tables nb ⟨_, _, _, 1, by decide, G_law_s_tuples, g_law_s_tuples, F_law_s_tuples.kp, B_law_s_tuples, ga_law_s_tuples⟩ ⟨_, _, _, 3, by decide, G_law_sagainst, g_law_sagainst, F_law_sagainst.kp, B_law_sagainst, ga_law_sagainst⟩ ⟨_, _, _, 2, by decide, G_law_sdraw, g_law_sdraw, F_law_sdraw.kp, B_law_sdraw, ga_law_sdraw⟩ ⟨_, _, _, 3, by decide, G_law_ssetting, g_law_ssetting, F_law_ssetting.kp, B_law_ssetting, ga_law_ssetting⟩ ⟨_, _, _, 1, by decide, G_law_sthose, g_law_sthose, F_law_sthose.kp, B_law_sthose, ga_law_sthose⟩
  have G_law_sclaim := ok_law_sclaim (P := P) (w := w) (base := base) F_law_sclaim nb ⟨_, _, _, 2, by decide, G_law_sdraw, g_law_sdraw, F_law_sdraw.kp, B_law_sdraw, ga_law_sdraw⟩
  have G_law_sbook := ok_law_sbook (P := P) (w := w) (base := base) F_law_sbook nb ⟨_, _, _, 3, by decide, G_law_sclaim, g_law_sclaim, F_law_sclaim.kp, B_law_sclaim, ga_law_sclaim⟩ ⟨_, _, _, 2, by decide, G_law_sdraw, g_law_sdraw, F_law_sdraw.kp, B_law_sdraw, ga_law_sdraw⟩
  have G_law_sopen := ok_law_sopen (P := P) (w := w) (base := base) F_law_sopen nb 
  have G_holds := ok_holds (P := P) (w := w) (base := base) F_holds nb 
  have G_failing := ok_failing (P := P) (w := w) (base := base) F_failing nb ⟨_, _, _, 1, by decide, G_holds, g_holds, F_holds.kp, B_holds, ga_holds⟩
  have G_need_few := ok_need_few (P := P) (w := w) (base := base) F_need_few nb ⟨_, V.int (10), gl_MOST_LOOKED, ⟨_, rfl⟩, fun _ _ => .int _⟩ ⟨_, ga_TooMany, g_TooMany, x1_TooMany, x2_TooMany, x3_TooMany, x4_TooMany⟩
  have G_those := ok_those (P := P) (w := w) (base := base) F_those nb 
  have G_tuples_of := ok_tuples_of (P := P) (w := w) (base := base) F_tuples_of nb 
  have G_shows_needed := ok_shows_needed (P := P) (w := w) (base := base) F_shows_needed nb ⟨_, _, _, 2, by decide, G_failing, g_failing, F_failing.kp, B_failing, ga_failing⟩ ⟨_, _, _, 1, by decide, G_holds, g_holds, F_holds.kp, B_holds, ga_holds⟩ ⟨_, _, _, 1, by decide, G_need_few, g_need_few, F_need_few.kp, B_need_few, ga_need_few⟩ ⟨_, _, _, 1, by decide, G_those, g_those, F_those.kp, B_those, ga_those⟩ ⟨_, _, _, 1, by decide, G_tuples_of, g_tuples_of, F_tuples_of.kp, B_tuples_of, ga_tuples_of⟩
  have G_law_srefused := ok_law_srefused (P := P) (w := w) (base := base) F_law_srefused nb ⟨_, _, _, 3, by decide, G_shows_needed, g_shows_needed, F_shows_needed.kp, B_shows_needed, ga_shows_needed⟩ e_ValueError ⟨_, V.ref _, g_NoBack, rfl, fun _ _ => .gl ga_NoBack⟩ ⟨_, V.ref _, g_NoCut, rfl, fun _ _ => .gl ga_NoCut⟩ ⟨_, V.ref _, g_NoInstead, rfl, fun _ _ => .gl ga_NoInstead⟩ ⟨_, V.ref _, g_NoLadder, rfl, fun _ _ => .gl ga_NoLadder⟩ ⟨_, V.ref _, g_NoRow, rfl, fun _ _ => .gl ga_NoRow⟩ ⟨_, V.ref _, g_NoTelling, rfl, fun _ _ => .gl ga_NoTelling⟩ ⟨_, V.ref _, g_NoText, rfl, fun _ _ => .gl ga_NoText⟩ ⟨_, V.ref _, g_TooGreat, rfl, fun _ _ => .gl ga_TooGreat⟩ ⟨_, V.ref _, g_TooMany, rfl, fun _ _ => .gl ga_TooMany⟩ ⟨_, ga_SpareError, g_SpareError⟩ eX
  have G_law_sthings := ok_law_sthings (P := P) (w := w) (base := base) F_law_sthings nb ⟨_, _, _, 2, by decide, G_law_sdraw, g_law_sdraw, F_law_sdraw.kp, B_law_sdraw, ga_law_sdraw⟩
  exact ok_law (P := P) (w := w) (base := base) F_law nb ⟨_, _, _, 4, by decide, G_law_s_due, g_law_s_due, F_law_s_due.kp, B_law_s_due, ga_law_s_due⟩ ⟨_, _, _, 4, by decide, G_law_s_tables, g_law_s_tables, F_law_s_tables.kp, B_law_s_tables, ga_law_s_tables⟩ ⟨_, _, _, 4, by decide, G_law_sbook, g_law_sbook, F_law_sbook.kp, B_law_sbook, ga_law_sbook⟩ ⟨_, _, _, 3, by decide, G_law_sclaim, g_law_sclaim, F_law_sclaim.kp, B_law_sclaim, ga_law_sclaim⟩ ⟨_, _, _, 2, by decide, G_law_sdraw, g_law_sdraw, F_law_sdraw.kp, B_law_sdraw, ga_law_sdraw⟩ ⟨_, _, _, 1, by decide, G_law_sopen, g_law_sopen, F_law_sopen.kp, B_law_sopen, ga_law_sopen⟩ ⟨_, _, _, 4, by decide, G_law_srefused, g_law_srefused, F_law_srefused.kp, B_law_srefused, ga_law_srefused⟩ ⟨_, _, _, 3, by decide, G_law_sthings, g_law_sthings, F_law_sthings.kp, B_law_sthings, ga_law_sthings⟩ ⟨_, _, _, 3, by decide, G_shows_needed, g_shows_needed, F_shows_needed.kp, B_shows_needed, ga_shows_needed⟩ e_bool ⟨_, V.ref _, g_shows_needed, rfl, fun _ _ => .gl ga_shows_needed⟩
end G3End
open PySem PySem.W PySem.Calls PyProof.Rows
theorem PySem.Challenge.cw_sparecut_k43_how_many_are_needed_holds : PySem.Challenge.rw_sparecut_k43_how_many_are_needed.Holds := by
  refine G3End.fin ?_
  refine G3.walk_end (l := PySem.Challenge.rw_sparecut_k43_how_many_are_needed) (n := 63) (k := 5) (x := "script") rfl (by decide) G3End.p11 ⟨rfl, by decide, by decide⟩ ?F
  intro w mg fa h Y G hmg0
  obtain ⟨K, KX, c⟩ := Y
  have hmg : mg ("law" : PySem.Str) = some (.ref fa) := by
    rw [← G3End.p12]
    exact hmg0
  obtain ⟨fd, hb, hF⟩ := G3End.facts (P := (PySem.Challenge.rw_sparecut_k43_how_many_are_needed).prog) (w := w) KX G hmg c
  exact ⟨K, fd, G3.sp_law, KX, hb, G3.law_says, hF⟩
