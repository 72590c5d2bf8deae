import PyProof.Rows.All
import HandS.Base
import HandS.Call
import HandS.CallSlots
import HandS.ClsMeth
import HandS.Conv
import HandS.Deep
import HandS.Defaults
import HandS.Dict
import HandS.Ends
import HandS.Exc
import HandS.ExcField
import HandS.ExcInit
import HandS.ExcIs
import HandS.ExcOwn
import HandS.ForMost
import HandS.Head0
import HandS.Head1
import HandS.Head2
import HandS.HeadEnd
import HandS.HeadHook1
import HandS.HeadHook2
import HandS.IsInst
import HandS.Iter
import HandS.More
import HandS.SetFor
import HandS.RaiseMore
import HandS.Small
import HandS.Steps
import HandS.SortInts
import HandS.Strs
import HandS.Style
import HandS.Text
import HandS.TryOnly
import HandS.TupAny
import HandS.TupMul
import HandS.TupSets
import HandS.WideBits
import HandS.Words
import HandS.WordsExc
import HandS.Zip
import KE.DatumOrd
import KE.GoesEnum
import KE.KSortTup
import KE.KStateDown
import KE.LtData
import Lean
import OpenK.AllK
import PyProof.AutoIntG1
import PyProof.AutoIntG2
import PyProof.AutoIntG9
import PyProof.ReprRoads
import PyProof.Rows.SetFrom
import PyProof.Rows.SortShellAny
import Wide.All
import Wide.FinOn
import PySem.Challenge.RW_sparecut_k82_no_ladders_texts
set_option Elab.async false
set_option linter.all false
set_option maxRecDepth 100000
set_option maxHeartbeats 0
/-! G3: a layer over HandS. Data D (tuples and frozen lists inline), what is tracked by address (GH), their relation to HandS's V and Hp. -/
namespace G3
open PySem L2

/-- data: lst is a list that never changes any more -/
inductive D where
  | non | bl (b : Bool) | int (i : Int) | str (x : Str) | ty (n : String) | ref (a : Addr)
  | tup (ds : List D) | lst (ds : List D)
  /-- the script, or what is written -/
  | rl (ds : List D)
  /-- the global thing of a name (a def, a class); a caught exception of a class of one's own, with its field at -/
  | gl (x : Str) | exc (C : Str) (n : Option Int)
/-- what an expression gives: data, or a new list that nobody else holds -/
inductive R where
  | v (d : D) | tl (ds : List D)
def R.fz : R → D
  | .v d => d
  | .tl ds => .lst ds
@[simp] theorem R.fz_v (d : D) : (R.v d).fz = d := rfl
@[simp] theorem R.fz_tl (ds : List D) : (R.tl ds).fz = .lst ds := rfl
/-- what is tracked: a list, a dict, an instance -/
inductive DO where
  | lst (ds : List D) | dk (kvs : List (Key × D)) | dt (kvs : List (List Key × D)) | ins (C : Str) (fs : List (Str × D))
abbrev GH := Addr → Option DO
abbrev DEnv := List (Option D)
def gup (g : GH) (a : Addr) (o : DO) : GH := fun b => if b = a then some o else g b
@[simp] theorem gup_same {g : GH} {a : Addr} {o : DO} : gup g a o a = some o := by unfold gup; rw [if_pos rfl]
theorem gup_ne {g : GH} {a b : Addr} {o : DO} (h : b ≠ a) : gup g a o b = g b := by unfold gup; rw [if_neg h]
@[simp] theorem gup_gup {g : GH} {a : Addr} {o u : DO} : gup (gup g a o) a u = gup g a u := by funext b; unfold gup; split <;> rfl

/-- a list that can't change: the script, or a written one -/
def SqR (K : PySem.W.Frag) (H : Hp) (a : Addr) (vs : List V) : Prop :=
  (∃ o, H a = some (.frz o (.lst vs))) ∨
    ∃ (o : Obj) (its : Array Value) (n : Nat), K.lookup a = some o ∧ o.cls = .type "list" ∧ o.dict = none ∧ o.data = .seq its n ∧ its.size ≤ sizeLine ∧ Vals vs its.toList
/-- where the global thing of a name stands -/
def gaK (K : PySem.W.Frag) (x : Str) : Option Addr := match PySem.W.nsIn K mainGlobals x with
  | some (some (.ref a)) => some a
  | _ => none
/-- the object at a is an exception's, of this class and dict -/
def IsX (a : Addr) (cls : Value) (d : Option Addr) : Heap → Prop := fun h => ∃ o vs, h.get? a = some o ∧ o.cls = cls ∧ o.dict = d ∧ o.data = .fields vs
mutual
inductive Rep (K : PySem.W.Frag) (H : Hp) (g : GH) : V → D → Prop
  | non : Rep K H g .non .non
  | bl (b : Bool) : Rep K H g (.bl b) (.bl b)
  | int (i : Int) : Rep K H g (.int i) (.int i)
  | str (x : Str) : Rep K H g (.str x) (.str x)
  | ty (n : String) : Rep K H g (.ty n) (.ty n)
  | ref (a : Addr) : Rep K H g (.ref a) (.ref a)
  | tup {a : Addr} {vs : List V} {ds : List D} : H a = some (.tup vs) → Reps K H g vs ds → Rep K H g (.ref a) (.tup ds)
  | lst {a : Addr} {vs : List V} {ds : List D} : H a = some (.lst vs) → g a = none → Reps K H g vs ds → Rep K H g (.ref a) (.lst ds)
  | rl {a : Addr} {vs : List V} {ds : List D} : SqR K H a vs → Reps K H g vs ds → Rep K H g (.ref a) (.rl ds)
  | gl {a : Addr} {x : Str} : gaK K x = some a → Rep K H g (.ref a) (.gl x)
  | exc0 {a c : Addr} {C : Str} : gaK K C = some c → H a = some (.ext (IsX a (.ref c) none)) → g a = none → Rep K H g (.ref a) (.exc C none)
  | exc1 {a c d : Addr} {C : Str} {i : Int} : gaK K C = some c → H a = some (.ext (IsX a (.ref c) (some d))) → g a = none → H d = some (.xd [("at", .int i)]) → g d = none → Rep K H g (.ref a) (.exc C (some i))
inductive Reps (K : PySem.W.Frag) (H : Hp) (g : GH) : List V → List D → Prop
  | nil : Reps K H g [] []
  | cons {v : V} {vs : List V} {d : D} {ds : List D} : Rep K H g v d → Reps K H g vs ds → Reps K H g (v :: vs) (d :: ds)
end

inductive Fields (K : PySem.W.Frag) (H : Hp) (g : GH) : List (Str × V) → List (Str × D) → Prop
  | nil : Fields K H g [] []
  | cons {f : Str} {v : V} {d : D} {vs : List (Str × V)} {ds : List (Str × D)} : Rep K H g v d → Fields K H g vs ds → Fields K H g ((f, v) :: vs) ((f, d) :: ds)
/-- a dict's rows, keys of any kind -/
inductive DRep {κ : Type} (K : PySem.W.Frag) (H : Hp) (g : GH) : List (κ × V) → List (κ × D) → Prop
  | nil : DRep K H g [] []
  | cons {k : κ} {v : V} {d : D} {r : List (κ × V)} {s : List (κ × D)} : Rep K H g v d → DRep K H g r s → DRep K H g ((k, v) :: r) ((k, d) :: s)

inductive RepO (K : PySem.W.Frag) (H : Hp) (g : GH) : HO → DO → Prop
  | lst {vs : List V} {ds : List D} : Reps K H g vs ds → RepO K H g (.lst vs) (.lst ds)
  | dK {r : List (Key × V)} {s : List (Key × D)} : DRep K H g r s → RepO K H g (.dK r) (.dk s)
  | dT {r : List (List Key × V)} {s : List (List Key × D)} : DRep K H g r s → RepO K H g (.dT r) (.dt s)
  | ins {C : Str} {c dx : Addr} {r : List (Str × V)} {s : List (Str × D)} : gaK K C = some c → Fields K H g r s → RepO K H g (.ins c dx r) (.ins C s)

def RepG (K : PySem.W.Frag) (H : Hp) (g : GH) : Prop := ∀ a o, g a = some o → ∃ h, H a = some h ∧ RepO K H g h o

/-- what stands untracked stands on; nothing vanishes -/
structure Fr (H : Hp) (g : GH) (H' : Hp) (g' : GH) : Prop where
  keep : ∀ b o, H b = some o → g b = none → H' b = some o ∧ g' b = none
  dom : ∀ b, H b ≠ none → H' b ≠ none
theorem Fr.refl (H : Hp) (g : GH) : Fr H g H g := ⟨fun _ _ h k => ⟨h, k⟩, fun _ h => h⟩
theorem Fr.trans {H1 H2 H3 : Hp} {g1 g2 g3 : GH} (a : Fr H1 g1 H2 g2) (b : Fr H2 g2 H3 g3) : Fr H1 g1 H3 g3 :=
  ⟨fun c o h k => let ⟨h', k'⟩ := a.keep c o h k; b.keep c o h' k', fun c h => b.dom c (a.dom c h)⟩
theorem Fr.none_of {H H' : Hp} {g g' : GH} (f : Fr H g H' g') {b : Addr} (h : H' b = none) : H b = none := by
  cases e : H b with
  | none => rfl
  | some o => exact absurd h (f.dom b (by rw [e]; simp))

section
variable {K : PySem.W.Frag} {H H' : Hp} {g g' : GH}
theorem Reps.length : ∀ {vs : List V} {ds : List D}, Reps K H g vs ds → vs.length = ds.length
  | _, _, .nil => rfl
  | _, _, .cons _ t => by simp [Reps.length t]
mutual
/-- under a change that keeps tuples and untracked lists -/
theorem Rep.mono (ht : ∀ a vs, H a = some (HO.tup vs) → H' a = some (HO.tup vs)) (hz : ∀ a o u, H a = some (.frz o u) → H' a = some (.frz o u)) (hl : ∀ a u, H a = some u → g a = none → H' a = some u ∧ g' a = none) : ∀ {v : V} {d : D}, Rep K H g v d → Rep K H' g' v d
  | _, _, .non => .non
  | _, _, .bl b => .bl b
  | _, _, .int i => .int i
  | _, _, .str x => .str x
  | _, _, .ty n => .ty n
  | _, _, .ref a => .ref a
  | _, _, .tup h r => .tup (ht _ _ h) (Reps.mono ht hz hl r)
  | _, _, .lst h k r => .lst (hl _ _ h k).1 (hl _ _ h k).2 (Reps.mono ht hz hl r)
  | _, _, .rl h r => .rl (h.imp (fun ⟨o, z⟩ => ⟨o, hz _ _ _ z⟩) id) (Reps.mono ht hz hl r)
  | _, _, .gl h => .gl h
  | _, _, .exc0 c h k => .exc0 c (hl _ _ h k).1 (hl _ _ h k).2
  | _, _, .exc1 c h k h2 k2 => .exc1 c (hl _ _ h k).1 (hl _ _ h k).2 (hl _ _ h2 k2).1 (hl _ _ h2 k2).2
theorem Reps.mono (ht : ∀ a vs, H a = some (HO.tup vs) → H' a = some (HO.tup vs)) (hz : ∀ a o u, H a = some (.frz o u) → H' a = some (.frz o u)) (hl : ∀ a u, H a = some u → g a = none → H' a = some u ∧ g' a = none) : ∀ {vs : List V} {ds : List D}, Reps K H g vs ds → Reps K H' g' vs ds
  | _, _, .nil => .nil
  | _, _, .cons h r => .cons (Rep.mono ht hz hl h) (Reps.mono ht hz hl r)
end
theorem RepG.nt (G : RepG K H g) {a : Addr} {u : HO} (h : H a = some u) (k : ∀ o, ¬ RepO K H g u o) : g a = none := by
  cases e : g a with
  | none => rfl
  | some o =>
    obtain ⟨u', h', r⟩ := G a o e
    rw [h] at h'; cases h'
    exact absurd r (k o)
theorem Fr.sqT (G : RepG K H g) (f : Fr H g H' g') {a : Addr} {vs : List V} (h : SqT K H a vs) : SqT K H' a vs := by
  rcases h with (h | ⟨o, h⟩) | h
  · exact .inl (.inl (f.keep a _ h (G.nt h fun o r => by cases r)).1)
  · exact .inl (.inr ⟨o, (f.keep a _ h (G.nt h fun o r => by cases r)).1⟩)
  · exact .inr h
theorem Fr.frz (G : RepG K H g) (f : Fr H g H' g') {a : Addr} {o : Obj} {u : HO} (h : H a = some (.frz o u)) : H' a = some (.frz o u) := (f.keep a _ h (G.nt h fun o r => by cases r)).1
theorem Rep.fr (G : RepG K H g) (f : Fr H g H' g') {v : V} {d : D} (r : Rep K H g v d) : Rep K H' g' v d :=
  r.mono (fun _ _ h => (f.keep _ _ h (G.nt h fun o r => by cases r)).1) (fun _ _ _ h => f.frz G h) fun _ _ h k => f.keep _ _ h k
theorem Reps.fr (G : RepG K H g) (f : Fr H g H' g') {v : List V} {d : List D} (r : Reps K H g v d) : Reps K H' g' v d :=
  r.mono (fun _ _ h => (f.keep _ _ h (G.nt h fun o r => by cases r)).1) (fun _ _ _ h => f.frz G h) fun _ _ h k => f.keep _ _ h k
theorem Fields.mono (h : ∀ v d, Rep K H g v d → Rep K H' g' v d) : ∀ {r : List (Str × V)} {s : List (Str × D)}, Fields K H g r s → Fields K H' g' r s
  | _, _, .nil => .nil
  | _, _, .cons x t => .cons (h _ _ x) (Fields.mono h t)
theorem DRep.mono {κ : Type} (h : ∀ v d, Rep K H g v d → Rep K H' g' v d) : ∀ {r : List (κ × V)} {s : List (κ × D)}, DRep K H g r s → DRep K H' g' r s
  | _, _, .nil => .nil
  | _, _, .cons x t => .cons (h _ _ x) (DRep.mono h t)
theorem Reps.monoR (h : ∀ v d, Rep K H g v d → Rep K H' g' v d) : ∀ {r : List V} {s : List D}, Reps K H g r s → Reps K H' g' r s
  | _, _, .nil => .nil
  | _, _, .cons x t => .cons (h _ _ x) (Reps.monoR h t)
theorem RepO.mono (h : ∀ v d, Rep K H g v d → Rep K H' g' v d) {u : HO} {o : DO} : RepO K H g u o → RepO K H' g' u o
  | .lst r => .lst (r.monoR h)
  | .dK r => .dK (r.mono h)
  | .dT r => .dT (r.mono h)
  | .ins c r => .ins c (r.mono h)

/-- a new object, untracked -/
theorem Fr.laid {p : Addr} {u : HO} (hp : H p = none) (G : RepG K H g) : Fr H g (upd H p u) g ∧ RepG K (upd H p u) g ∧ g p = none := by
  have f : Fr H g (upd H p u) g := ⟨fun b o h k => ⟨by rw [upd_ne (ne_of_none h hp)]; exact h, k⟩, fun b h => by
    unfold upd; split
    · simp
    · exact h⟩
  refine ⟨f, fun a o e => ?_, ?_⟩
  · obtain ⟨w, hw, r⟩ := G a o e
    exact ⟨w, by rw [upd_ne (ne_of_none hw hp)]; exact hw, r.mono fun _ _ x => x.fr G f⟩
  · cases e : g p with
    | none => rfl
    | some o =>
      obtain ⟨w, hw, _⟩ := G p o e
      rw [hp] at hw; cases hw
/-- one that begins to be tracked -/
theorem RepG.track {p : Addr} {u : HO} {o : DO} {H0 : Hp} (hp : H p = some u) (h0 : ∀ b w, H0 b = some w → b ≠ p ∧ H b = some w) (G : RepG K H0 g) (r : RepO K H0 g u o) : RepG K H (gup g p o) := by
  have m : ∀ v d, Rep K H0 g v d → Rep K H (gup g p o) v d := fun v d x => by
    have hn : ∀ b w, H0 b = some w → g b = none → gup g p o b = none := fun b w h k => by rw [gup_ne (h0 b w h).1]; exact k
    refine x.mono (fun a vs h => (h0 _ _ h).2) (fun a o u h => (h0 _ _ h).2) fun a vs h k => ?_
    · exact ⟨(h0 _ _ h).2, hn _ _ h k⟩
  intro a w e
  by_cases ha : a = p
  · subst ha
    rw [gup_same] at e; cases e
    exact ⟨u, hp, r.mono m⟩
  · rw [gup_ne ha] at e
    obtain ⟨z, hz, q⟩ := G a w e
    exact ⟨z, (h0 _ _ hz).2, q.mono m⟩
/-- a tracked object changes -/
theorem Fr.write {p : Addr} {u u' : HO} {o o' : DO} (hp : H p = some u) (gp : g p = some o) (hu : ∀ vs, u ≠ .tup vs) (hu2 : ∀ ob w, u ≠ .frz ob w) (G : RepG K H g) (r : RepO K H g u' o') : Fr H g (upd H p u') (gup g p o') ∧ RepG K (upd H p u') (gup g p o') := by
  have f : Fr H g (upd H p u') (gup g p o') := ⟨fun b w h k => by
    have hb : b ≠ p := fun e => by rw [e, gp] at k; cases k
    exact ⟨by rw [upd_ne hb]; exact h, by rw [gup_ne hb]; exact k⟩, fun b h => by
    unfold upd; split
    · simp
    · exact h⟩
  refine ⟨f, fun a w e => ?_⟩
  by_cases ha : a = p
  · subst ha
    rw [gup_same] at e; cases e
    exact ⟨u', upd_same, r.mono fun _ _ x => x.fr G f⟩
  · rw [gup_ne ha] at e
    obtain ⟨z, hz, q⟩ := G a w e
    exact ⟨z, by rw [upd_ne ha]; exact hz, q.mono fun _ _ x => x.fr G f⟩

/-- the slots -/
structure RepS (K : PySem.W.Frag) (H : Hp) (g : GH) (σ : L2.St) (ρ : DEnv) : Prop where
  len : σ.length = ρ.length
  at_ : ∀ (i : Nat) (d : D), ρ[i]? = some (some d) → ∃ v, σ[i]? = some (some v) ∧ Rep K H g v d
theorem RepS.fr {σ : L2.St} {ρ : DEnv} (G : RepG K H g) (f : Fr H g H' g') (r : RepS K H g σ ρ) : RepS K H' g' σ ρ :=
  ⟨r.len, fun i d e => let ⟨v, h, q⟩ := r.at_ i d e; ⟨v, h, q.fr G f⟩⟩
theorem RepS.set {σ : L2.St} {ρ : DEnv} {i : Nat} {v : V} {d : D} (r : RepS K H g σ ρ) (q : Rep K H g v d) : RepS K H g (σ.set i (some v)) (ρ.set i (some d)) := by
  refine ⟨by simp [r.len], fun j e h => ?_⟩
  by_cases hj : i = j
  · subst hj
    by_cases hi : i < ρ.length
    · rw [List.getElem?_set_self hi] at h
      cases h
      exact ⟨v, List.getElem?_set_self (by rw [r.len]; exact hi), q⟩
    · rw [List.getElem?_eq_none (by simpa using hi)] at h; cases h
  · rw [List.getElem?_set_ne hj] at h
    obtain ⟨w, hw, q'⟩ := r.at_ j e h
    exact ⟨w, by rw [List.getElem?_set_ne hj]; exact hw, q'⟩
theorem RepS.forget {σ : L2.St} {ρ : DEnv} {i : Nat} {o : Option V} (r : RepS K H g σ ρ) : RepS K H g (σ.set i o) (ρ.set i none) := by
  refine ⟨by simp [r.len], fun j e h => ?_⟩
  by_cases hj : i = j
  · subst hj
    by_cases hi : i < ρ.length
    · rw [List.getElem?_set_self hi] at h; cases h
    · rw [List.getElem?_eq_none (by simpa using hi)] at h; cases h
  · rw [List.getElem?_set_ne hj] at h
    obtain ⟨w, hw, q'⟩ := r.at_ j e h
    exact ⟨w, by rw [List.getElem?_set_ne hj]; exact hw, q'⟩
/-- the heap but for some objects -/
def hide (H : Hp) (B : List Addr) : Hp := fun b => if b ∈ B then none else H b
theorem hide_in {H : Hp} {B : List Addr} {b : Addr} (h : b ∈ B) : hide H B b = none := if_pos h
theorem hide_out {H : Hp} {B : List Addr} {b : Addr} (h : b ∉ B) : hide H B b = H b := if_neg h
theorem of_hide {H : Hp} {B : List Addr} {b : Addr} {o : HO} (h : hide H B b = some o) : H b = some o ∧ b ∉ B := by
  by_cases m : b ∈ B
  · rw [hide_in m] at h; cases h
  · rw [hide_out m] at h; exact ⟨h, m⟩
theorem hide_upd {H : Hp} {B : List Addr} {p : Addr} {o : HO} (m : p ∉ B) : hide (upd H p o) B = upd (hide H B) p o := by
  funext b
  by_cases hb : b = p
  · subst hb; rw [hide_out m, upd_same, upd_same]
  · by_cases hm : b ∈ B
    · rw [hide_in hm, upd_ne hb, hide_in hm]
    · rw [hide_out hm, upd_ne hb, upd_ne hb, hide_out hm]
theorem sqT_un {B : List Addr} {a : Addr} {vs : List V} (h : SqT K (hide H B) a vs) : SqT K H a vs := by
  rcases h with (h | ⟨o, h⟩) | h
  · exact .inl (.inl (of_hide h).1)
  · exact .inl (.inr ⟨o, (of_hide h).1⟩)
  · exact .inr h
theorem Rep.un {B : List Addr} {v : V} {d : D} (r : Rep K (hide H B) g v d) : Rep K H g v d := r.mono (fun _ _ h => (of_hide h).1) (fun _ _ _ h => (of_hide h).1) fun _ _ h k => ⟨(of_hide h).1, k⟩
theorem Reps.un {B : List Addr} {v : List V} {d : List D} (r : Reps K (hide H B) g v d) : Reps K H g v d := r.mono (fun _ _ h => (of_hide h).1) (fun _ _ _ h => (of_hide h).1) fun _ _ h k => ⟨(of_hide h).1, k⟩
/-- what is seen: all but the objects of B, which stand untracked -/
structure Vw (K : PySem.W.Frag) (B : List Addr) (H : Hp) (g : GH) : Prop where
  dom : ∀ b ∈ B, H b ≠ none
  rg : RepG K (hide H B) g
theorem Vw.un {B : List Addr} (w : Vw K B H g) : RepG K H g := fun a o e =>
  let ⟨h, hh, r⟩ := w.rg a o e
  ⟨h, (of_hide hh).1, r.mono fun _ _ x => x.un⟩
theorem Vw.new {B : List Addr} (w : Vw K B H g) {p : Addr} (h : H p = none) : p ∉ B := fun m => w.dom p m h
theorem Vw.hn {B : List Addr} (w : Vw K B H g) {p : Addr} (h : H p = none) : hide H B p = none := by rw [hide_out (w.new h)]; exact h
theorem Fr.hd (f : Fr H g H' g') (B : List Addr) : Fr (hide H B) g (hide H' B) g' :=
  ⟨fun b o h k => let ⟨h1, h2⟩ := of_hide h; let ⟨h3, h4⟩ := f.keep b o h1 k; ⟨by rw [hide_out h2]; exact h3, h4⟩, fun b h => by
    by_cases m : b ∈ B
    · exact absurd (hide_in m) h
    · rw [hide_out m] at h ⊢; exact f.dom b h⟩
theorem Rep.fv {B : List Addr} (w : Vw K B H g) (f : Fr H g H' g') {v : V} {d : D} (r : Rep K (hide H B) g v d) : Rep K (hide H' B) g' v d := r.fr w.rg (f.hd B)
theorem Reps.fv {B : List Addr} (w : Vw K B H g) (f : Fr H g H' g') {v : List V} {d : List D} (r : Reps K (hide H B) g v d) : Reps K (hide H' B) g' v d := r.fr w.rg (f.hd B)
theorem RepS.fv {B : List Addr} (w : Vw K B H g) (f : Fr H g H' g') {σ : L2.St} {ρ : DEnv} (r : RepS K (hide H B) g σ ρ) : RepS K (hide H' B) g' σ ρ := r.fr w.rg (f.hd B)
theorem Fr.laidV {B : List Addr} {p : Addr} {u : HO} (hp : H p = none) (w : Vw K B H g) : Fr H g (upd H p u) g ∧ Vw K B (upd H p u) g ∧ g p = none := by
  obtain ⟨_, rg', gp⟩ := Fr.laid (u := u) (w.hn hp) w.rg
  refine ⟨⟨fun b o h k => ⟨by rw [upd_ne (ne_of_none h hp)]; exact h, k⟩, fun b h => ?_⟩, ⟨fun b m => ?_, by rw [hide_upd (w.new hp)]; exact rg'⟩, gp⟩
  · unfold upd; split
    · simp
    · exact h
  · unfold upd; split
    · simp
    · exact w.dom b m
theorem Fr.writeV {B : List Addr} {p : Addr} {u u' : HO} {o o' : DO} (hp : H p = some u) (gp : g p = some o) (hu : ∀ vs, u ≠ .tup vs) (hu2 : ∀ ob w, u ≠ .frz ob w) (w : Vw K B H g) (r : RepO K (hide H B) g u' o') :
    Fr H g (upd H p u') (gup g p o') ∧ Vw K B (upd H p u') (gup g p o') := by
  have hp' : hide H B p = some u := by
    obtain ⟨z, hz, _⟩ := w.rg p o gp
    rw [hz]
    rw [(of_hide hz).1] at hp; exact hp
  obtain ⟨_, rg'⟩ := Fr.write (u' := u') (o' := o') hp' gp hu hu2 w.rg r
  refine ⟨⟨fun b v h k => ?_, fun b h => ?_⟩, ⟨fun b m => ?_, by rw [hide_upd (of_hide hp').2]; exact rg'⟩⟩
  · have hb : b ≠ p := fun e => by rw [e, gp] at k; cases k
    exact ⟨by rw [upd_ne hb]; exact h, by rw [gup_ne hb]; exact k⟩
  · unfold upd; split
    · simp
    · exact h
  · unfold upd; split
    · simp
    · exact w.dom b m
def wipeD (ρ : DEnv) : List Nat → DEnv
  | [] => ρ
  | v :: vs => (wipeD ρ vs).set v none
theorem RepS.wipe {σ : L2.St} {ρ : DEnv} (r : RepS K H g σ ρ) : ∀ vs : List Nat, RepS K H g (L2.wipe σ vs) (wipeD ρ vs)
  | [] => r
  | v :: vs => (RepS.wipe r vs).forget
end
end G3
/-! G3: readings over data, lifted to HandS's; the rules for expressions -/
namespace G3
open PySem L2

abbrev QK := R → GH → Prop
/-- an exception of a class of the program, with its field at -/
structure Exn where
  C : Str
  n : Option Int
abbrev XKD := Exn → GH → Prop
abbrev TD := DEnv → GH → QK → XKD → Prop
abbrev TTD := DEnv → GH → (Bool → GH → Prop) → XKD → Prop
abbrev TAD := DEnv → GH → (List D → GH → Prop) → XKD → Prop

def Fresh (K : PySem.W.Frag) (B : List Addr) (H H' : Hp) (g' : GH) (v : V) (d : R) : Prop :=
  ∀ ds, d = .tl ds → ∃ a vs H0, v = .ref a ∧ H a = none ∧ H' a = some (.lst vs) ∧ (∀ b w, H0 b = some w → b ≠ a ∧ hide H' B b = some w) ∧ RepG K H0 g' ∧ Reps K H0 g' vs ds
def Cont (K : PySem.W.Frag) (B : List Addr) (H : Hp) (g : GH) (Q0 : QK) (Q : VK) : Prop :=
  ∀ d g' v H', Q0 d g' → Rep K (hide H' B) g' v d.fz → Vw K B H' g' → Fr H g H' g' → Fresh K B H H' g' v d → Q v H'
inductive ExOk (K : PySem.W.Frag) (H : Hp) (g : GH) : Exn → Value → Option Addr → Prop
  | plain {C : Str} {c : Addr} : gaK K C = some c → ExOk K H g ⟨C, none⟩ (.ref c) none
  | dict {C : Str} {c d : Addr} {i : Int} : gaK K C = some c → H d = some (.xd [("at", .int i)]) → g d = none → ExOk K H g ⟨C, some i⟩ (.ref c) (some d)
def XCont (K : PySem.W.Frag) (B : List Addr) (H : Hp) (g : GH) (W0 : XKD) (E : XK) : Prop :=
  ∀ x g' cls d H', W0 x g' → ExOk K (hide H' B) g' x cls d → Vw K B H' g' → Fr H g H' g' → E cls d H'
def ContB (K : PySem.W.Frag) (B : List Addr) (H : Hp) (g : GH) (Q0 : Bool → GH → Prop) (Q : Bool → Hp → Prop) : Prop :=
  ∀ b g' H', Q0 b g' → Vw K B H' g' → Fr H g H' g' → Q b H'
def ContA (K : PySem.W.Frag) (B : List Addr) (H : Hp) (g : GH) (Q0 : List D → GH → Prop) (Q : List V → Hp → Prop) : Prop :=
  ∀ ds g' vs H', Q0 ds g' → Reps K (hide H' B) g' vs ds → Vw K B H' g' → Fr H g H' g' → Q vs H'
def LE (K : PySem.W.Frag) (E : L2.St → XK) (t : TD) : TE := fun σ H Q => ∃ B ρ g Q0 W0, RepS K (hide H B) g σ ρ ∧ Vw K B H g ∧ t ρ g Q0 W0 ∧ Cont K B H g Q0 Q ∧ XCont K B H g W0 (E σ)
def LT (K : PySem.W.Frag) (E : L2.St → XK) (t : TTD) : TT := fun σ H Q => ∃ B ρ g Q0 W0, RepS K (hide H B) g σ ρ ∧ Vw K B H g ∧ t ρ g Q0 W0 ∧ ContB K B H g Q0 Q ∧ XCont K B H g W0 (E σ)
def LA (K : PySem.W.Frag) (E : L2.St → XK) (t : TAD) : TA := fun σ H Q => ∃ B ρ g Q0 W0, RepS K (hide H B) g σ ρ ∧ Vw K B H g ∧ t ρ g Q0 W0 ∧ ContA K B H g Q0 Q ∧ XCont K B H g W0 (E σ)

section
variable {K : PySem.W.Frag} {B : List Addr} {H H1 H2 : Hp} {g g1 g2 : GH} {Q0 : QK} {Q : VK} {W0 : XKD} {E : XK}
theorem Fresh.after (f : Fr H g H1 g1) {v : V} {d : R} (h : Fresh K B H1 H2 g2 v d) : Fresh K B H H2 g2 v d := fun ds e =>
  let ⟨a, vs, H0, e1, e2, r⟩ := h ds e
  ⟨a, vs, H0, e1, f.none_of e2, r⟩
theorem Cont.after (f : Fr H g H1 g1) (c : Cont K B H g Q0 Q) : Cont K B H1 g1 Q0 Q := fun d g' v H' q r rg f' fr => c d g' v H' q r rg (f.trans f') (fr.after f)
theorem XCont.after (f : Fr H g H1 g1) (c : XCont K B H g W0 E) : XCont K B H1 g1 W0 E := fun x g' cls d H' q r rg f' => c x g' cls d H' q r rg (f.trans f')
theorem ContB.after {Q0 : Bool → GH → Prop} {Q : Bool → Hp → Prop} (f : Fr H g H1 g1) (c : ContB K B H g Q0 Q) : ContB K B H1 g1 Q0 Q := fun d g' H' q rg f' => c d g' H' q rg (f.trans f')
theorem ContA.after {Q0 : List D → GH → Prop} {Q : List V → Hp → Prop} (f : Fr H g H1 g1) (c : ContA K B H g Q0 Q) : ContA K B H1 g1 Q0 Q := fun d g' v H' q r rg f' => c d g' v H' q r rg (f.trans f')
/-- a value that is no new list -/
theorem Fresh.no {v : V} {d : D} : Fresh K B H H1 g v (.v d) := fun ds e => nomatch e
/-- the end with the heap as it stands -/
theorem Cont.here {d : D} {v : V} (c : Cont K B H g Q0 Q) (q : Q0 (.v d) g) (r : Rep K (hide H B) g v d) (rg : Vw K B H g) : Q v H :=
  c (.v d) g v H q r rg (Fr.refl H g) .no
/-- the end with a new list -/
theorem Cont.newL {ds : List D} {vs : List V} (c : Cont K B H g Q0 Q) (q : Q0 (.tl ds) g) (r : Reps K (hide H B) g vs ds) (w : Vw K B H g) (p : Addr) (hp : H p = none) : Q (.ref p) (upd H p (.lst vs)) := by
  obtain ⟨f, w', gp⟩ := Fr.laidV (u := .lst vs) hp w
  exact c (.tl ds) g _ _ q (.lst (by rw [hide_out (w.new hp)]; exact upd_same) gp (r.fv w f)) w' f fun ds' e => by
    cases e
    exact ⟨p, vs, hide H B, rfl, hp, upd_same, fun b u h => ⟨ne_of_none h (w.hn hp), by rw [hide_upd (w.new hp), upd_ne (ne_of_none h (w.hn hp))]; exact h⟩, w.rg, r⟩
/-- the end with a new tuple -/
theorem Cont.newT {ds : List D} {vs : List V} (c : Cont K B H g Q0 Q) (q : Q0 (.v (.tup ds)) g) (r : Reps K (hide H B) g vs ds) (w : Vw K B H g) (p : Addr) (hp : H p = none) : Q (.ref p) (upd H p (.tup vs)) := by
  obtain ⟨f, w', gp⟩ := Fr.laidV (u := .tup vs) hp w
  exact c (.v (.tup ds)) g _ _ q (.tup (by rw [hide_out (w.new hp)]; exact upd_same) (r.fv w f)) w' f .no
end

/-! ### operators -/
def R2Ok (K : PySem.W.Frag) (f : R → R → GH → QK → Prop) (r : R2) : Prop :=
  ∀ x y (d e : R) B H g Q0 Q, Rep K (hide H B) g x d.fz → Rep K (hide H B) g y e.fz → Vw K B H g → f d e g Q0 → Cont K B H g Q0 Q → r x y H Q
def R1Ok (K : PySem.W.Frag) (f : R → GH → QK → Prop) (r : V → Hp → VK → Prop) : Prop :=
  ∀ x (d : R) B H g Q0 Q, Rep K (hide H B) g x d.fz → Vw K B H g → f d g Q0 → Cont K B H g Q0 Q → r x H Q
def RNOk (K : PySem.W.Frag) (f : List D → GH → QK → Prop) (r : List V → Hp → VK → Prop) : Prop :=
  ∀ xs ds B H g Q0 Q, Reps K (hide H B) g xs ds → Vw K B H g → f ds g Q0 → Cont K B H g Q0 Q → r xs H Q
def wBin (f : R → R → GH → QK → Prop) (ta tb : TD) : TD := fun ρ g Q W => ta ρ g (fun x g1 => tb ρ g1 (fun y g2 => f x y g2 Q) W) W
def wUn (f : R → GH → QK → Prop) (ta : TD) : TD := fun ρ g Q W => ta ρ g (fun x g1 => f x g1 Q) W
def wC (d : D) : TD := fun _ g Q _ => Q (.v d) g
def wVar (i : Nat) : TD := fun ρ g Q _ => match ρ[i]? with | some (some d) => Q (.v d) g | _ => False
def wTest (t : TD) : TTD := fun ρ g Q W => t ρ g (fun d g1 => match d with | .v (.bl b) => Q b g1 | _ => False) W
def wAnd (ta tb : TD) : TD := fun ρ g Q W => ta ρ g (fun x g1 => match x with | .v (.bl c) => if c = true then tb ρ g1 Q W else Q (.v (.bl false)) g1 | _ => False) W
def wOr (ta tb : TD) : TD := fun ρ g Q W => ta ρ g (fun x g1 => match x with | .v (.bl c) => if c = true then Q (.v (.bl true)) g1 else tb ρ g1 Q W | _ => False) W
def wNot (ta : TD) : TD := fun ρ g Q W => ta ρ g (fun x g1 => match x with | .v (.bl c) => Q (.v (.bl (!c))) g1 | _ => False) W
def wIte (tc ta tb : TD) : TD := fun ρ g Q W => tc ρ g (fun x g1 => match x with | .v (.bl c) => if c = true then ta ρ g1 Q W else tb ρ g1 Q W | _ => False) W
def wNil : TAD := fun _ g Q _ => Q [] g
def wCons (ta : TD) (tr : TAD) : TAD := fun ρ g Q W => ta ρ g (fun x g1 => tr ρ g1 (fun xs g2 => Q (x.fz :: xs) g2) W) W
def wArgs (t : TAD) (f : List D → GH → QK → Prop) : TD := fun ρ g Q W => t ρ g (fun ds g1 => f ds g1 Q) W

section
variable {X : Cx} {e a b c : Expr} {es : List Expr} {ta tb tc : TD} {tr : TAD} {E : L2.St → XK}
theorem PE.of {t t' : TE} (h : PE X e t') (i : ∀ σ H Q, t σ H Q → t' σ H Q) : PE X e t := ⟨fun pins s σ H Q I q => h.run pins s σ H Q I (i σ H Q q)⟩
theorem PT.of {t t' : TT} (h : PT X e t') (i : ∀ σ H Q, t σ H Q → t' σ H Q) : PT X e t := ⟨fun pins s σ H Q I q => h.run pins s σ H Q I (i σ H Q q)⟩
theorem PW.of {t t' : TT} (h : PW X e t') (i : ∀ σ H Q, t σ H Q → t' σ H Q) : PW X e t := ⟨fun w pins s σ H Q I q => h.run w pins s σ H Q I (i σ H Q q)⟩
theorem PA.of {t t' : TA} (h : PA X es t') (i : ∀ σ H Q, t σ H Q → t' σ H Q) : PA X es t := ⟨fun pos pins s σ H Q I q => h.run pos pins s σ H Q I (i σ H Q q)⟩

theorem q_bin {f : R → R → GH → QK → Prop} {r : R2} (hr : R2Ok X.K f r) (h : PE X e (tOp r (LE X.K E ta) (LE X.K E tb))) : PE X e (LE X.K E (wBin f ta tb)) :=
  PE.of h fun σ H Q ⟨B, ρ, g, Q0, W0, rs, rg, t, c, xc⟩ =>
    ⟨B, ρ, g, _, W0, rs, rg, t, fun d g1 x H1 hb rd rg1 f1 _ => ⟨B, ρ, g1, _, W0, rs.fv rg f1, rg1, hb, fun e g2 y H2 hf re rg2 f2 _ => hr x y d e B H2 g2 Q0 Q (rd.fv rg1 f2) re rg2 hf (c.after (f1.trans f2)), xc.after f1⟩, xc⟩
theorem q_un {f : R → GH → QK → Prop} {r : V → Hp → VK → Prop} (hr : R1Ok X.K f r) (h : PE X e (tUn r (LE X.K E ta))) : PE X e (LE X.K E (wUn f ta)) :=
  PE.of h fun σ H Q ⟨B, ρ, g, Q0, W0, rs, rg, t, c, xc⟩ =>
    ⟨B, ρ, g, _, W0, rs, rg, t, fun d g1 x H1 hf rd rg1 f1 _ => hr x d B H1 g1 Q0 Q rd rg1 hf (c.after f1), xc⟩
theorem q_args {f : List D → GH → QK → Prop} {r : List V → Hp → VK → Prop} (hr : RNOk X.K f r) (h : PE X e (tCB r (LA X.K E tr))) : PE X e (LE X.K E (wArgs tr f)) :=
  PE.of h fun σ H Q ⟨B, ρ, g, Q0, W0, rs, rg, t, c, xc⟩ =>
    ⟨B, ρ, g, _, W0, rs, rg, t, fun ds g1 xs H1 hf rd rg1 f1 => hr xs ds B H1 g1 Q0 Q rd rg1 hf (c.after f1), xc⟩
theorem q_c {v : V} {d : D} (h : PE X e (tC v)) (r : ∀ H g, Rep X.K H g v d) : PE X e (LE X.K E (wC d)) :=
  PE.of h fun σ H Q ⟨B, ρ, g, Q0, W0, rs, rg, t, c, xc⟩ => c.here t (r _ g) rg
theorem q_var {i : Nat} (h : PE X e (tVar i)) : PE X e (LE X.K E (wVar i)) :=
  PE.of h fun σ H Q ⟨B, ρ, g, Q0, W0, rs, rg, t, c, xc⟩ => by
    have t' : (match ρ[i]? with | some (some d) => Q0 (.v d) g | _ => False) := t
    split at t'
    · rename_i d hd
      obtain ⟨v, hv, r⟩ := rs.at_ i d hd
      exact ⟨v, hv, c.here t' r rg⟩
    · exact t'.elim
theorem q_nil : PA X [] (LA X.K E wNil) := PA.of pa_nil fun σ H Q ⟨B, ρ, g, Q0, W0, rs, rg, t, c, xc⟩ => c [] g [] H t .nil rg (Fr.refl H g)
theorem q_cons (h : PA X (e :: es) (tCons (LE X.K E ta) (LA X.K E tr))) : PA X (e :: es) (LA X.K E (wCons ta tr)) :=
  PA.of h fun σ H Q ⟨B, ρ, g, Q0, W0, rs, rg, t, c, xc⟩ =>
    ⟨B, ρ, g, _, W0, rs, rg, t, fun d g1 x H1 hb rd rg1 f1 _ => ⟨B, ρ, g1, _, W0, rs.fv rg f1, rg1, hb, fun ds g2 ys H2 hf re rg2 f2 => c _ g2 _ H2 hf (.cons (rd.fv rg1 f2) re) rg2 (f1.trans f2), xc.after f1⟩, xc⟩
theorem q_tup {x1 : Nat} {pos : Pos} (h : PA X es (LA X.K E tr)) : PE X (.Tuple es x1 pos) (LE X.K E (wArgs tr fun ds g Q => ds.length ≤ sizeLine ∧ Q (.v (.tup ds)) g)) :=
  PE.of (pe_tup h) fun σ H Q ⟨B, ρ, g, Q0, W0, rs, rg, t, c, xc⟩ =>
    ⟨B, ρ, g, _, W0, rs, rg, t, fun ds g1 xs H1 hf rd rg1 f1 => ⟨by rw [rd.length]; exact hf.1, fun p hp => (c.after f1).newT hf.2 rd rg1 p hp⟩, xc⟩
theorem q_lst {pos : Pos} (h : PA X es (LA X.K E tr)) : PE X (.List es pos) (LE X.K E (wArgs tr fun ds g Q => ds.length ≤ sizeLine ∧ Q (.tl ds) g)) :=
  PE.of (pe_lst h) fun σ H Q ⟨B, ρ, g, Q0, W0, rs, rg, t, c, xc⟩ =>
    ⟨B, ρ, g, _, W0, rs, rg, t, fun ds g1 xs H1 hf rd rg1 f1 => ⟨by rw [rd.length]; exact hf.1, fun p hp => (c.after f1).newL hf.2 rd rg1 p hp⟩, xc⟩

/-! tests -/
theorem bl_of {K : PySem.W.Frag} {H : Hp} {g : GH} {v : V} {b : Bool} (r : Rep K H g v (.bl b)) : v = .bl b := by cases r; rfl
theorem q_val (h : PT X e (tB (LE X.K E ta))) : PT X e (LT X.K E (wTest ta)) :=
  PT.of h fun σ H Q ⟨B, ρ, g, Q0, W0, rs, rg, t, c, xc⟩ =>
    ⟨B, ρ, g, _, W0, rs, rg, t, fun d g1 x H1 hb rd rg1 f1 _ => by
      match d, rd, hb with
      | .v (.bl b), rd, hb => exact ⟨b, bl_of rd, c b g1 H1 hb rg1 f1⟩
      | .v .non, _, hb | .v (.int _), _, hb | .v (.str _), _, hb | .v (.ty _), _, hb | .v (.ref _), _, hb | .v (.tup _), _, hb | .v (.lst _), _, hb | .v (.rl _), _, hb | .tl _, _, hb => exact hb.elim, xc⟩
theorem q_wAnd (h : PW X e (tAnd (LT X.K E (wTest ta)) (LT X.K E (wTest tb)))) : PW X e (LT X.K E (wTest (wAnd ta tb))) :=
  PW.of h fun σ H Q ⟨B, ρ, g, Q0, W0, rs, rg, t, c, xc⟩ => by
    refine ⟨B, ρ, g, fun b g1 => if b = true then wTest tb ρ g1 Q0 W0 else Q0 false g1, W0, rs, rg, ?_, fun b g1 H1 hb rg1 f1 => ?_, xc⟩
    · exact t
    · cases b with
      | true => exact ⟨B, ρ, g1, Q0, W0, rs.fv rg f1, rg1, hb, c.after f1, xc.after f1⟩
      | false => exact c false g1 H1 hb rg1 f1
theorem q_wOr (h : PW X e (tOr (LT X.K E (wTest ta)) (LT X.K E (wTest tb)))) : PW X e (LT X.K E (wTest (wOr ta tb))) :=
  PW.of h fun σ H Q ⟨B, ρ, g, Q0, W0, rs, rg, t, c, xc⟩ => by
    refine ⟨B, ρ, g, fun b g1 => if b = true then Q0 true g1 else wTest tb ρ g1 Q0 W0, W0, rs, rg, ?_, fun b g1 H1 hb rg1 f1 => ?_, xc⟩
    · exact t
    · cases b with
      | true => exact c true g1 H1 hb rg1 f1
      | false => exact ⟨B, ρ, g1, Q0, W0, rs.fv rg f1, rg1, hb, c.after f1, xc.after f1⟩
theorem q_tNot (h : PT X e (tNot (LT X.K E (wTest ta)))) : PT X e (LT X.K E (wTest (wNot ta))) :=
  PT.of h fun σ H Q ⟨B, ρ, g, Q0, W0, rs, rg, t, c, xc⟩ => by
    refine ⟨B, ρ, g, fun b g1 => Q0 (!b) g1, W0, rs, rg, ?_, fun b g1 H1 hb rg1 f1 => c _ g1 H1 hb rg1 f1, xc⟩
    exact t
theorem q_and (h : PE X e (tAndV (LE X.K E ta) (LE X.K E tb))) : PE X e (LE X.K E (wAnd ta tb)) :=
  PE.of h fun σ H Q ⟨B, ρ, g, Q0, W0, rs, rg, t, c, xc⟩ =>
    ⟨B, ρ, g, _, W0, rs, rg, t, fun d g1 x H1 hb rd rg1 f1 _ => by
      match d, rd, hb with
      | .v (.bl b), rd, hb =>
        refine ⟨b, bl_of rd, ?_⟩
        cases b with
        | true => exact ⟨B, ρ, g1, Q0, W0, rs.fv rg f1, rg1, hb, c.after f1, xc.after f1⟩
        | false => exact (c.after f1).here hb (.bl false) rg1
      | .v .non, _, hb | .v (.int _), _, hb | .v (.str _), _, hb | .v (.ty _), _, hb | .v (.ref _), _, hb | .v (.tup _), _, hb | .v (.lst _), _, hb | .v (.rl _), _, hb | .tl _, _, hb => exact hb.elim, xc⟩
theorem q_or (h : PE X e (tOrV (LE X.K E ta) (LE X.K E tb))) : PE X e (LE X.K E (wOr ta tb)) :=
  PE.of h fun σ H Q ⟨B, ρ, g, Q0, W0, rs, rg, t, c, xc⟩ =>
    ⟨B, ρ, g, _, W0, rs, rg, t, fun d g1 x H1 hb rd rg1 f1 _ => by
      match d, rd, hb with
      | .v (.bl b), rd, hb =>
        refine ⟨b, bl_of rd, ?_⟩
        cases b with
        | true => exact (c.after f1).here hb (.bl true) rg1
        | false => exact ⟨B, ρ, g1, Q0, W0, rs.fv rg f1, rg1, hb, c.after f1, xc.after f1⟩
      | .v .non, _, hb | .v (.int _), _, hb | .v (.str _), _, hb | .v (.ty _), _, hb | .v (.ref _), _, hb | .v (.tup _), _, hb | .v (.lst _), _, hb | .v (.rl _), _, hb | .tl _, _, hb => exact hb.elim, xc⟩
theorem q_not (h : PE X e (tNotV (LE X.K E ta))) : PE X e (LE X.K E (wNot ta)) :=
  PE.of h fun σ H Q ⟨B, ρ, g, Q0, W0, rs, rg, t, c, xc⟩ =>
    ⟨B, ρ, g, _, W0, rs, rg, t, fun d g1 x H1 hb rd rg1 f1 _ => by
      match d, rd, hb with
      | .v (.bl b), rd, hb => exact ⟨b, bl_of rd, (c.after f1).here hb (.bl _) rg1⟩
      | .v .non, _, hb | .v (.int _), _, hb | .v (.str _), _, hb | .v (.ty _), _, hb | .v (.ref _), _, hb | .v (.tup _), _, hb | .v (.lst _), _, hb | .v (.rl _), _, hb | .tl _, _, hb => exact hb.elim, xc⟩
theorem q_ite (h : PE X e (tIf (LT X.K E (wTest tc)) (LE X.K E ta) (LE X.K E tb))) : PE X e (LE X.K E (wIte tc ta tb)) :=
  PE.of h fun σ H Q ⟨B, ρ, g, Q0, W0, rs, rg, t, c, xc⟩ => by
    refine ⟨B, ρ, g, fun b g1 => if b = true then ta ρ g1 Q0 W0 else tb ρ g1 Q0 W0, W0, rs, rg, ?_, fun b g1 H1 hb rg1 f1 => ?_, xc⟩
    · exact t
    · cases b with
      | true => exact ⟨B, ρ, g1, Q0, W0, rs.fv rg f1, rg1, hb, c.after f1, xc.after f1⟩
      | false => exact ⟨B, ρ, g1, Q0, W0, rs.fv rg f1, rg1, hb, c.after f1, xc.after f1⟩
end
end G3
/-! G3: a tuple so many times, with none and one too -/
namespace G3
open PySem PySem.Spec PyProof.Rows L2
theorem tuple_mul0 (l : Addr) (items : Array Value) (n : Nat) (dd : Option Addr) (sl : Array (Option Value)) (x : Int) (u : Tok) (c0 : (decide (x < -(2 ^ 63)) || decide (x ≥ 2 ^ 63)) = false) (c1 : (items.isEmpty || x == 1) = false) (c2 : (decide (x ≤ 0) || items.isEmpty) = true) :
    Meets (Builtin.«tuple.__mul__» ⟨[.ref l, .int x u], []⟩) (fun _ R s => s.heap.get? l = some { cls := .type "tuple", dict := dd, data := .seq items n, slots := sl } ∧
      R (.ok (.ret (Value.ref s.heap.objs.size))) { s with heap := s.heap.push { cls := Value.type "tuple", data := Data.seq #[] }, toks := s.toks }) :=
  .of_wp fun prog w A R s h => by
    obtain ⟨hp, g, d, tk, os⟩ := s
    obtain ⟨hl, h⟩ := h
    have f1 := AutoSeq1.idx_int
    wp_walk using wpAny_loadPart' hl
    repeat (first
      | (refine wpAny_ite_false (decide_eq_false (by rw [c0]; exact Bool.false_ne_true)) ?_; wp_walk using wpAny_loadPart' hl)
      | (refine wpAny_ite_false (decide_eq_false (by rw [c1]; exact Bool.false_ne_true)) ?_; wp_walk using wpAny_loadPart' hl)
      | (refine wpAny_ite_true (decide_eq_true c2) ?_; wp_walk using wpAny_loadPart' hl))
    exact ⟨_, rfl, h⟩
theorem tuple_mul1 (l : Addr) (items : Array Value) (n : Nat) (dd : Option Addr) (sl : Array (Option Value)) (u : Tok) :
    Meets (Builtin.«tuple.__mul__» ⟨[.ref l, .int 1 u], []⟩) (fun _ R s => s.heap.get? l = some { cls := .type "tuple", dict := dd, data := .seq items n, slots := sl } ∧
      R (.ok (.ret (Value.ref l))) s) :=
  .of_wp fun prog w A R s h => by
    obtain ⟨hp, g, d, tk, os⟩ := s
    obtain ⟨hl, h⟩ := h
    have f1 := AutoSeq1.idx_int
    have c0 : (decide ((1 : Int) < -(2 ^ 63)) || decide ((1 : Int) ≥ 2 ^ 63)) = false := by decide
    have c1 : (items.isEmpty || (1 : Int) == 1) = true := by cases items.isEmpty <;> rfl
    wp_walk using wpAny_loadPart' hl
    repeat (first
      | (refine wpAny_ite_false (decide_eq_false (by rw [c0]; exact Bool.false_ne_true)) ?_; wp_walk using wpAny_loadPart' hl)
      | (refine wpAny_ite_true (decide_eq_true c1) ?_; wp_walk using wpAny_loadPart' hl))
    exact ⟨_, rfl, h⟩
/-- so many times: none, one, more -/
def rRepA (K : PySem.W.Frag) : R2 := fun x y H Q => ∃ l k xs, x = .ref l ∧ y = .int k ∧ SqT K H l xs ∧ xs ≠ [] ∧ -1000 ≤ k ∧ k ≤ 1000 ∧ xs.length ≤ 1000 ∧ (k = 1 → Q (.ref l) H) ∧ (k ≠ 1 → ∀ p, H p = none → Q (.ref p) (upd H p (.tup (List.replicate k.toNat xs).flatten)))
section
variable {X : Cx}
theorem op_repA : OpR X (binaryOp .Mult) (rRepA X.K) := by
  intro pins s σ H x y v u Q I rx ry h
  obtain ⟨l, k, xs, rfl, rfl, hT, hne, h1, h2, hz, q1, q⟩ := h
  by_cases h2k : 2 ≤ k
  · exact op_repT pins s σ H _ _ v u Q I rx ry ⟨l, k, xs, rfl, rfl, hT, hne, h2k, h2, hz, q (by omega)⟩
  cases rx
  obtain ⟨t, rfl⟩ := ry
  obtain ⟨its, r, ⟨⟨cls, dd, data, sl⟩, ho, hc, n, hd⟩, hs⟩ := I.tuple hT
  simp only at hc hd
  subst hc hd
  have hle : its.length = xs.length := r.length.symm
  have hn : its ≠ [] := fun e => hne (by
    rw [e] at hle
    exact List.eq_nil_of_length_eq_zero hle.symm)
  have hi : its.toArray.isEmpty = false := by
    cases its with
    | nil => exact absurd rfl hn
    | cons a b => rfl
  by_cases h1k : k = 1
  · subst h1k
    exact wpAny_binaryOp_repeat_ref (T := "tuple") (U := "int") (by decide) ⟨_, ho, rfl⟩ (fun s' => typeIs_int s' 1 t) noFill_tuple_mul F.fills_int_mul F.slot_int_rmul repeat_tuple F.slot_int_index.lookup
      (call_meets F.slot_int_rmul (typeIs_int s 1 t) F.entry_int_rmul (F.args_int_rmul_2 _ _) (int_rmul_tuple 1 t l its.toArray n dd sl)
        ⟨ho, rfl, ⟨_, ho, rfl⟩, call_meets F.slot_tuple_mul ⟨_, ho, rfl⟩ F.entry_tuple_mul (F.args_tuple_mul_2 _ _) (tuple_mul1 l its.toArray n dd sl t) ⟨ho, ⟨.ref l, H, I, rfl, q1 rfl⟩⟩⟩)
  have c0 : (decide (k < -(2 ^ 63)) || decide (k ≥ 2 ^ 63)) = false := by
    rw [decide_eq_false (by omega), decide_eq_false (by omega)] <;> rfl
  have c1 : (its.toArray.isEmpty || k == 1) = false := by
    rw [hi, Bool.false_or]
    exact beq_eq_false_iff_ne.mpr h1k
  have c2 : (decide (k ≤ 0) || its.toArray.isEmpty) = true := by
    rw [decide_eq_true (by omega)]; rfl
  have hk0 : k.toNat = 0 := by omega
  refine wpAny_binaryOp_repeat_ref (T := "tuple") (U := "int") (by decide) ⟨_, ho, rfl⟩ (fun s' => typeIs_int s' k t) noFill_tuple_mul F.fills_int_mul F.slot_int_rmul repeat_tuple F.slot_int_index.lookup
    (call_meets F.slot_int_rmul (typeIs_int s k t) F.entry_int_rmul (F.args_int_rmul_2 _ _) (int_rmul_tuple k t l its.toArray n dd sl)
      ⟨ho, rfl, ⟨_, ho, rfl⟩, call_meets F.slot_tuple_mul ⟨_, ho, rfl⟩ F.entry_tuple_mul (F.args_tuple_mul_2 _ _) (tuple_mul0 l its.toArray n dd sl k t c0 c1 c2) ⟨ho, ?_⟩⟩)
  refine ⟨.ref s.heap.objs.size, _, I.laid (t' := s.toks) (o := .tup (List.replicate k.toNat xs).flatten) (fun b ob q => Heap.get?_push_of_some _ q) (Nat.le_refl _) ?_, rfl, q h1k _ (I.hok.fresh (Nat.le_refl _))⟩
  have e : (List.replicate k.toNat xs).flatten = [] := by rw [hk0]; rfl
  rw [e]
  exact ⟨Nat.zero_le _, [], .nil, IsTup.new _ _⟩
end
end G3
/-! G3: operators, comparisons, subscripts by data -/
namespace G3
open PySem L2

/-! ### lists of data -/
section
variable {K : PySem.W.Frag} {H : Hp} {g : GH}
theorem Reps.get : ∀ {vs : List V} {ds : List D} {i : Nat} {d : D}, Reps K H g vs ds → ds[i]? = some d → ∃ v, vs[i]? = some v ∧ Rep K H g v d
  | _, _, _, _, .nil, e => by simp at e
  | _, _, 0, d, .cons r _, e => by simp at e; subst e; exact ⟨_, rfl, r⟩
  | _, _, i + 1, d, .cons _ t, e => by
    obtain ⟨v, h1, h2⟩ := Reps.get (i := i) (d := d) t (by simpa using e)
    exact ⟨v, by simpa using h1, h2⟩
theorem Reps.append : ∀ {vs ws : List V} {ds es : List D}, Reps K H g vs ds → Reps K H g ws es → Reps K H g (vs ++ ws) (ds ++ es)
  | _, _, _, _, .nil, s => s
  | _, _, _, _, .cons r t, s => .cons r (Reps.append t s)
theorem Reps.take : ∀ {vs : List V} {ds : List D} (n : Nat), Reps K H g vs ds → Reps K H g (vs.take n) (ds.take n)
  | _, _, 0, _ => .nil
  | _, _, _ + 1, .nil => .nil
  | _, _, n + 1, .cons r t => .cons r (Reps.take n t)
theorem Reps.drop : ∀ {vs : List V} {ds : List D} (n : Nat), Reps K H g vs ds → Reps K H g (vs.drop n) (ds.drop n)
  | _, _, 0, r => r
  | _, _, _ + 1, .nil => .nil
  | _, _, n + 1, .cons _ t => Reps.drop n t
theorem Reps.set {v : V} {d : D} (r : Rep K H g v d) : ∀ {vs : List V} {ds : List D} (i : Nat), Reps K H g vs ds → Reps K H g (vs.set i v) (ds.set i d)
  | _, _, _, .nil => .nil
  | _, _, 0, .cons _ t => .cons r t
  | _, _, i + 1, .cons q t => .cons q (Reps.set r i t)
theorem Reps.eraseIdx : ∀ {vs : List V} {ds : List D} (i : Nat), Reps K H g vs ds → Reps K H g (vs.eraseIdx i) (ds.eraseIdx i)
  | _, _, _, .nil => .nil
  | _, _, 0, .cons _ t => t
  | _, _, i + 1, .cons q t => .cons q (Reps.eraseIdx i t)
theorem Reps.dropLast : ∀ {vs : List V} {ds : List D}, Reps K H g vs ds → Reps K H g vs.dropLast ds.dropLast
  | _, _, .nil => .nil
  | _, _, .cons _ .nil => .nil
  | _, _, .cons q (.cons q' t) => .cons q (Reps.dropLast (.cons q' t))
theorem Reps.one {v : V} {d : D} (r : Rep K H g v d) : Reps K H g [v] [d] := .cons r .nil
theorem Reps.flat : ∀ (n : Nat) {vs : List V} {ds : List D}, Reps K H g vs ds → Reps K H g (List.replicate n vs).flatten (List.replicate n ds).flatten
  | 0, _, _, _ => .nil
  | n + 1, _, _, r => by
    rw [List.replicate_succ, List.replicate_succ, List.flatten_cons, List.flatten_cons]
    exact r.append (Reps.flat n r)
end

/-- what may be read as a list; as a list or tuple -/
def lstOf (g : GH) : R → List D → Prop
  | .tl ds, xs => xs = ds
  | .v (.lst ds), xs => xs = ds
  | .v (.ref a), xs => g a = some (.lst xs)
  | _, _ => False
def tupOf : R → List D → Prop
  | .v (.tup ds), xs => xs = ds
  | _, _ => False
def rolOf : R → List D → Prop
  | .v (.rl ds), xs => xs = ds
  | _, _ => False
def rdOf (g : GH) (r : R) (xs : List D) : Prop := lstOf g r xs ∨ tupOf r xs ∨ rolOf r xs
section
variable {K : PySem.W.Frag} {H : Hp} {g : GH} {v : V} {r : R} {xs : List D}
theorem lstOf.rep (G : RepG K H g) (h : Rep K H g v r.fz) (l : lstOf g r xs) : ∃ a vs, v = .ref a ∧ H a = some (.lst vs) ∧ Reps K H g vs xs := by
  match r, h, l with
  | .tl ds, .lst h k q, l => cases l; exact ⟨_, _, rfl, h, q⟩
  | .v (.lst ds), .lst h k q, l => cases l; exact ⟨_, _, rfl, h, q⟩
  | .v (.ref a), .ref _, l =>
    obtain ⟨u, hu, q⟩ := G a _ l
    cases q with
    | lst q => exact ⟨a, _, rfl, hu, q⟩
theorem tupOf.repH (h : Rep K H g v r.fz) (l : tupOf r xs) : ∃ a vs, v = .ref a ∧ H a = some (.tup vs) ∧ Reps K H g vs xs := by
  match r, h, l with
  | .v (.tup ds), .tup h q, l => cases l; exact ⟨_, _, rfl, h, q⟩
theorem tupOf.rep (h : Rep K H g v r.fz) (l : tupOf r xs) : ∃ a vs, v = .ref a ∧ SqT K H a vs ∧ Reps K H g vs xs :=
  let ⟨a, vs, e, h, q⟩ := tupOf.repH h l
  ⟨a, vs, e, .inl (.inl h), q⟩
theorem SqR.l {a : Addr} {vs : List V} (h : SqR K H a vs) : SqL K H a vs := h.imp (fun ⟨o, z⟩ => .inr ⟨o, z⟩) id
theorem rolOf.rep (h : Rep K H g v r.fz) (l : rolOf r xs) : ∃ a vs, v = .ref a ∧ SqL K H a vs ∧ Reps K H g vs xs := by
  match r, h, l with
  | .v (.rl ds), .rl h q, l => cases l; exact ⟨_, _, rfl, h.l, q⟩
theorem rdOf.rep (G : RepG K H g) (h : Rep K H g v r.fz) (l : rdOf g r xs) : ∃ a vs, v = .ref a ∧ (SqL K H a vs ∨ SqT K H a vs) ∧ Reps K H g vs xs := by
  rcases l with l | l | l
  · obtain ⟨a, vs, e, h, q⟩ := lstOf.rep G h l; exact ⟨a, vs, e, .inl (.inl (.inl h)), q⟩
  · obtain ⟨a, vs, e, h, q⟩ := tupOf.rep h l; exact ⟨a, vs, e, .inr h, q⟩
  · obtain ⟨a, vs, e, h, q⟩ := rolOf.rep h l; exact ⟨a, vs, e, .inl h, q⟩
end

/-! ### ints -/
def fI2 (C : Int → Int → Prop) (h : Int → Int → D) : R → R → GH → QK → Prop := fun x y g Q => match x, y with
  | .v (.int i), .v (.int j) => C i j ∧ Q (.v (h i j)) g
  | _, _ => False
theorem int_of {K : PySem.W.Frag} {H : Hp} {g : GH} {v : V} {b : Int} (r : Rep K H g v (.int b)) : v = .int b := by cases r; rfl
theorem str_of {K : PySem.W.Frag} {H : Hp} {g : GH} {v : V} {b : Str} (r : Rep K H g v (.str b)) : v = .str b := by cases r; rfl
theorem fI2_inv {C : Int → Int → Prop} {h : Int → Int → D} {x y : R} {g : GH} {Q : QK} (q : fI2 C h x y g Q) : ∃ i j, x = .v (.int i) ∧ y = .v (.int j) ∧ C i j ∧ Q (.v (h i j)) g := by
  unfold fI2 at q
  split at q
  · exact ⟨_, _, rfl, rfl, q⟩
  · exact q.elim
theorem ok_I2 {K : PySem.W.Frag} {C : Int → Int → Prop} {h : Int → Int → D} {h' : Int → Int → V} (hh : ∀ i j H g, Rep K H g (h' i j) (h i j)) : R2Ok K (fI2 C h) (rI C h') := fun x y d e B H g Q0 Q rx ry rg q c => by
  obtain ⟨i, j, rfl, rfl, hc, q⟩ := fI2_inv q
  exact ⟨i, j, int_of rx, int_of ry, hc, c.here q (hh i j _ g) rg⟩
theorem ok_I20 {K : PySem.W.Frag} {h : Int → Int → D} {h' : Int → Int → V} (hh : ∀ i j H g, Rep K H g (h' i j) (h i j)) : R2Ok K (fI2 (fun _ _ => True) h) (rI0 h') := fun x y d e B H g Q0 Q rx ry rg q c => by
  obtain ⟨i, j, rfl, rfl, hc, q⟩ := fI2_inv q
  exact ⟨i, j, int_of rx, int_of ry, c.here q (hh i j _ g) rg⟩
def fNeg : R → GH → QK → Prop := fun x g Q => match x with
  | .v (.int i) => Q (.v (.int (-i))) g
  | _ => False
theorem ok_neg {K : PySem.W.Frag} : R1Ok K fNeg (rU fun i => .int (-i)) := fun x d B H g Q0 Q rx rg q c => by
  unfold fNeg at q
  split at q
  · exact ⟨_, int_of rx, c.here q (.int _) rg⟩
  · exact q.elim

/-! ### texts, tuples, lists put together -/
def fAddS : R → R → GH → QK → Prop := fun x y g Q => match x, y with
  | .v (.str i), .v (.str j) => i.length + j.length ≤ sizeLine ∧ Q (.v (.str (i ++ j))) g
  | _, _ => False
theorem ok_addS {K : PySem.W.Frag} : R2Ok K fAddS (fun x y H Q => ∃ i j, x = .str i ∧ y = .str j ∧ i.length + j.length ≤ sizeLine ∧ Q (.str (i ++ j)) H) := fun x y d e B H g Q0 Q rx ry rg q c => by
  unfold fAddS at q
  split at q
  · exact ⟨_, _, str_of rx, str_of ry, q.1, c.here q.2 (.str _) rg⟩
  · exact q.elim
def fAddT : R → R → GH → QK → Prop := fun x y g Q => ∃ a b, tupOf x a ∧ tupOf y b ∧ a.length + b.length ≤ sizeLine ∧ Q (.v (.tup (a ++ b))) g
theorem ok_addT {K : PySem.W.Frag} : R2Ok K fAddT (rCatA K) := fun x y d e B H g Q0 Q rx ry rg ⟨a, b, ha, hb, hz, q⟩ c => by
  obtain ⟨p, vs, rfl, hp, r1⟩ := ha.repH rx
  obtain ⟨p2, ws, rfl, hp2, r2⟩ := hb.repH ry
  refine ⟨p, p2, vs, ws, rfl, rfl, sqT_un (.inl (.inl hp)), sqT_un (.inl (.inl hp2)), by rw [r1.length, r2.length]; exact hz, fun e => ?_, fun _ e => ?_, fun _ _ p3 h3 => c.newT q (r1.append r2) rg p3 h3⟩
  · subst e; cases r1
    exact c.here q (.tup hp2 r2) rg
  · subst e; cases r2
    rw [List.append_nil] at q
    exact c.here q (.tup hp r1) rg
def fAddL : R → R → GH → QK → Prop := fun x y g Q => ∃ a b, lstOf g x a ∧ lstOf g y b ∧ a.length + b.length ≤ sizeLine ∧ Q (.tl (a ++ b)) g
theorem ok_addL {K : PySem.W.Frag} : R2Ok K fAddL rCat := fun x y d e B H g Q0 Q rx ry rg ⟨a, b, ha, hb, hz, q⟩ c => by
  obtain ⟨p, vs, rfl, hp, r1⟩ := ha.rep rg.rg rx
  obtain ⟨p2, ws, rfl, hp2, r2⟩ := hb.rep rg.rg ry
  exact ⟨p, p2, vs, ws, rfl, rfl, (of_hide hp).1, (of_hide hp2).1, by rw [r1.length, r2.length]; exact hz, fun p3 h3 => c.newL q (r1.append r2) rg p3 h3⟩
/-- a tuple, a list so many times -/
def fRepT : R → R → GH → QK → Prop := fun x y g Q => match y with
  | .v (.int k) => ∃ a, tupOf x a ∧ a ≠ [] ∧ -1000 ≤ k ∧ k ≤ 1000 ∧ a.length ≤ 1000 ∧ Q (.v (.tup (List.replicate k.toNat a).flatten)) g
  | _ => False
theorem ok_repT {K : PySem.W.Frag} : R2Ok K fRepT (rRepA K) := fun x y d e B H g Q0 Q rx ry rg q c => by
  unfold fRepT at q
  split at q
  · obtain ⟨a, ha, hne, h2, hk, hz, q⟩ := q
    obtain ⟨p, vs, rfl, hp, r1⟩ := ha.repH rx
    refine ⟨p, _, vs, rfl, int_of ry, sqT_un (.inl (.inl hp)), fun e => by subst e; cases r1; exact hne rfl, h2, hk, by rw [r1.length]; exact hz, fun e => ?_, fun _ p3 h3 => c.newT q (r1.flat _) rg p3 h3⟩
    subst e
    have e1 : (List.replicate (1 : Int).toNat a).flatten = a := by show ([a] : List (List D)).flatten = a; simp
    rw [e1] at q
    exact c.here q (.tup hp r1) rg
  · exact q.elim

/-! ### items, slices -/
def fIx (of : GH → R → List D → Prop) : R → R → GH → QK → Prop := fun x y g Q => match y with
  | .v (.int i) => ∃ a d, of g x a ∧ atI a i = some d ∧ Q (.v d) g
  | _ => False
theorem Reps.atI {K : PySem.W.Frag} {H : Hp} {g : GH} {vs : List V} {ds : List D} (r : Reps K H g vs ds) {i : Int} {d : D} (h : L2.atI ds i = some d) : ∃ v, L2.atI vs i = some v ∧ Rep K H g v d := by
  unfold L2.atI at h ⊢
  rw [r.length]
  cases e : ixN ds.length i with
  | none => rw [e] at h; cases h
  | some j =>
    rw [e] at h
    obtain ⟨v, hv, q⟩ := r.get h
    exact ⟨v, hv, q⟩
theorem ok_ixT {K : PySem.W.Frag} : R2Ok K (fIx fun _ => tupOf) (rIxT K) := fun x y d e B H g Q0 Q rx ry rg q c => by
  unfold fIx at q
  split at q
  · obtain ⟨a, z, ha, hz, q⟩ := q
    obtain ⟨p, vs, rfl, hp, r1⟩ := ha.rep rx
    obtain ⟨v, hv, r⟩ := r1.atI hz
    exact ⟨p, vs, _, v, rfl, int_of ry, sqT_un hp, hv, c.here q r rg⟩
  · exact q.elim
theorem ok_ixL {K : PySem.W.Frag} : R2Ok K (fIx lstOf) (rIxL K) := fun x y d e B H g Q0 Q rx ry rg q c => by
  unfold fIx at q
  split at q
  · obtain ⟨a, z, ha, hz, q⟩ := q
    obtain ⟨p, vs, rfl, hp, r1⟩ := ha.rep rg.rg rx
    obtain ⟨v, hv, r⟩ := r1.atI hz
    exact ⟨p, vs, _, v, rfl, int_of ry, .inl (.inl (of_hide hp).1), hv, c.here q r rg⟩
  · exact q.elim
def fIxS : R → R → GH → QK → Prop := fun x y g Q => match x, y with
  | .v (.str z), .v (.int i) => z.length ≤ sizeLine ∧ ∃ c, atI z.cps.toList i = some c ∧ Q (.v (.str ⟨#[c]⟩)) g
  | _, _ => False
theorem ok_ixS {K : PySem.W.Frag} : R2Ok K fIxS rIxS := fun x y d e B H g Q0 Q rx ry rg q c => by
  unfold fIxS at q
  split at q
  · obtain ⟨hz, z, h, q⟩ := q
    exact ⟨_, _, z, str_of rx, int_of ry, hz, h, c.here q (.str _) rg⟩
  · exact q.elim
/-- the part of a list from lo to hi -/
def cutD {α : Type} (xs : List α) (lo hi : Option Int) : List α := (xs.drop (HT.sIx xs.length 0 lo)).take (HT.sIx xs.length xs.length hi - HT.sIx xs.length 0 lo)
def optI : Option R → Option (Option Int)
  | none => some none
  | some (.v (.int i)) => some (some i)
  | _ => none

/-! ### equality -/
mutual
def pd : D → PyData
  | .non => .none
  | .bl b => .bool b
  | .int i => .int i
  | .str x => .str x
  | .ty _ => .none
  | .ref _ => .none
  | .tup ds => .tuple (pds ds)
  | .lst ds => .list (pds ds)
  | .rl _ => .none
  | .gl _ => .none
  | .exc _ _ => .none
def pds : List D → List PyData
  | [] => []
  | d :: ds => pd d :: pds ds
end
mutual
/-- data through and through, its texts of good signs, nested no more than n -/
def okD : Nat → D → Bool
  | _, .non => true
  | _, .bl _ => true
  | _, .int _ => true
  | _, .str x => PyData.strOk x
  | _, .ty _ => false
  | _, .ref _ => false
  | _, .gl _ => false
  | _, .exc _ _ => false
  | 0, .tup _ => false
  | n + 1, .tup ds => okDs n ds
  | 0, .lst _ => false
  | n + 1, .lst ds => okDs n ds
  | _, .rl _ => false
def okDs : Nat → List D → Bool
  | _, [] => true
  | n, d :: ds => okD n d && okDs n ds
end
mutual
theorem okD_lay : ∀ (n : Nat) (d : D), okD n d = true → (pd d).canLay0 = true ∧ (pd d).depth ≤ n
  | _, .non, _ => by simp [pd, PyData.canLay0, PyData.depth]
  | _, .bl _, _ => by simp [pd, PyData.canLay0, PyData.depth]
  | _, .int _, _ => by simp [pd, PyData.canLay0, PyData.depth]
  | _, .str x, h => by
    simp only [okD] at h
    simp [pd, PyData.canLay0, PyData.depth, h]
  | _, .ty _, h => by simp [okD] at h
  | _, .ref _, h => by simp [okD] at h
  | _, .gl _, h => by simp [okD] at h
  | _, .exc _ _, h => by simp [okD] at h
  | _, .rl _, h => by simp [okD] at h
  | 0, .tup _, h => by simp [okD] at h
  | n + 1, .tup ds, h => by
    simp only [okD] at h
    have q := okDs_lay n ds h
    simp only [pd, PyData.canLay0, PyData.depth]
    exact ⟨q.1, by omega⟩
  | 0, .lst _, h => by simp [okD] at h
  | n + 1, .lst ds, h => by
    simp only [okD] at h
    have q := okDs_lay n ds h
    simp only [pd, PyData.canLay0, PyData.depth]
    exact ⟨q.1, by omega⟩
theorem okDs_lay : ∀ (n : Nat) (ds : List D), okDs n ds = true → PyData.canLayAll0 (pds ds) = true ∧ PyData.depthAll (pds ds) ≤ n
  | _, [], _ => by simp [pds, PyData.canLayAll0, PyData.depthAll]
  | n, d :: ds, h => by
    simp only [okDs, Bool.and_eq_true] at h
    have q1 := okD_lay n d h.1
    have q2 := okDs_lay n ds h.2
    simp only [pds, PyData.canLayAll0, PyData.depthAll, Bool.and_eq_true]
    exact ⟨⟨q1.1, q2.1⟩, Nat.max_le.mpr ⟨q1.2, q2.2⟩⟩
end
theorem okD_shaped {d : D} (h : okD 64 d = true) : SeqAt.shaped (pd d) = true := by
  have q := okD_lay 64 d h
  unfold SeqAt.shaped
  rw [q.1]
  exact decide_eq_true q.2
mutual
theorem Rep.dp {K : PySem.W.Frag} {H : Hp} {g : GH} : ∀ {v : V} {d : D} (n : Nat), Rep K H g v d → okD n d = true → Dp K H v (pd d)
  | _, _, _, .non, _ => .non
  | _, _, _, .bl b, _ => .bl b
  | _, _, _, .int i, _ => .int i
  | _, _, _, .str x, _ => .str x
  | _, _, _, .ty n, k => by simp [okD] at k
  | _, _, _, .ref n, k => by simp [okD] at k
  | _, _, _, .gl _, k => by simp [okD] at k
  | _, _, _, .exc0 _ _ _, k => by simp [okD] at k
  | _, _, _, .exc1 _ _ _ _ _, k => by simp [okD] at k
  | _, _, _, .rl h r, k => by simp [okD] at k
  | _, _, 0, .tup h r, k => by simp [okD] at k
  | _, _, n + 1, .tup h r, k => by
    simp only [okD] at k
    exact .tup (.inl (.inl h)) (Reps.dp n r k)
  | _, _, 0, .lst h _ r, k => by simp [okD] at k
  | _, _, n + 1, .lst h _ r, k => by
    simp only [okD] at k
    exact .lst (.inl (.inl h)) (Reps.dp n r k)
theorem Reps.dp {K : PySem.W.Frag} {H : Hp} {g : GH} : ∀ {vs : List V} {ds : List D} (n : Nat), Reps K H g vs ds → okDs n ds = true → DpAll K H vs (pds ds)
  | _, _, _, .nil, _ => .nil
  | _, _, n, .cons h r, k => by
    simp only [okDs, Bool.and_eq_true] at k
    exact .cons (Rep.dp n h k.1) (Reps.dp n r k.2)
end
/-- a tracked list read as one that stands still -/
def resR (g : GH) : R → D → Prop
  | .v (.ref a), d => ∃ xs, g a = some (.lst xs) ∧ d = .lst xs
  | r, d => d = r.fz
theorem resR.dp {K : PySem.W.Frag} {H : Hp} {g : GH} {v : V} {r : R} {d : D} (G : RepG K H g) (x : Rep K H g v r.fz) (h : resR g r d) (k : okD 64 d = true) : Dp K H v (pd d) := by
  match r, x, h with
  | .v (.ref a), .ref _, h =>
    obtain ⟨xs, hx, e⟩ : ∃ xs, g a = some (.lst xs) ∧ d = .lst xs := h
    subst e
    obtain ⟨u, hu, q⟩ := G a _ hx
    cases q with
    | lst q => exact .lst (.inl (.inl hu)) (Reps.dp 63 q (by simpa only [okD] using k))
  | .tl ds, x, h => cases h; exact x.dp 64 k
  | .v .non, x, h | .v (.bl _), x, h | .v (.int _), x, h | .v (.str _), x, h | .v (.ty _), x, h | .v (.tup _), x, h | .v (.lst _), x, h | .v (.gl _), x, h | .v (.exc _ _), x, h | .v (.rl _), x, h => cases h; exact x.dp 64 k
/-- a tracked list of tracked lists, read as it stands -/
def rsv1 (g : GH) (d : D) : D := match d with
  | .ref a => match g a with
    | some (.lst xs) => .lst xs
    | _ => .ref a
  | d => d
def rsv2 (g : GH) (d : D) : D := match d with
  | .ref a => match g a with
    | some (.lst xs) => .lst (xs.map (rsv1 g))
    | _ => .ref a
  | .lst xs => .lst (xs.map (rsv1 g))
  | .tup xs => .tup (xs.map (rsv1 g))
  | d => d
theorem rsv1_dp {K : PySem.W.Frag} {H : Hp} {g : GH} {v : V} {d : D} (G : RepG K H g) (x : Rep K H g v d) (k : okD 63 (rsv1 g d) = true) : Dp K H v (pd (rsv1 g d)) := by
  unfold rsv1 at k ⊢
  split
  · rename_i a
    cases x
    dsimp only at k
    split
    · rename_i xs hx
      rw [hx] at k
      obtain ⟨u, hu, q⟩ := G a _ hx
      cases q with
      | lst q => exact .lst (.inl (.inl hu)) (Reps.dp 62 q (by simpa only [okD] using k))
    · rename_i n
      split at k
      · rename_i xs hx; exact absurd hx (n xs)
      · simp [okD] at k
  · rename_i n
    refine x.dp 63 ?_
    split at k
    · exact absurd rfl (n _)
    · exact k
theorem rsv1s_dp {K : PySem.W.Frag} {H : Hp} {g : GH} (G : RepG K H g) : ∀ {vs : List V} {ds : List D}, Reps K H g vs ds → okDs 63 (ds.map (rsv1 g)) = true → DpAll K H vs (pds (ds.map (rsv1 g)))
  | _, _, .nil, _ => .nil
  | _, _, .cons h r, k => by
    simp only [List.map_cons, okDs, Bool.and_eq_true] at k
    exact .cons (rsv1_dp G h k.1) (rsv1s_dp G r k.2)
theorem rsv2_dp {K : PySem.W.Frag} {H : Hp} {g : GH} {v : V} {d : D} (G : RepG K H g) (x : Rep K H g v d) (k : okD 64 (rsv2 g d) = true) : Dp K H v (pd (rsv2 g d)) := by
  unfold rsv2 at k ⊢
  split
  · rename_i a
    cases x
    dsimp only at k
    split
    · rename_i xs hx
      rw [hx] at k
      obtain ⟨u, hu, q⟩ := G a _ hx
      cases q with
      | lst q => exact .lst (.inl (.inl hu)) (rsv1s_dp G q (by simpa only [okD] using k))
    · rename_i n
      split at k
      · rename_i xs hx; exact absurd hx (n xs)
      · simp [okD] at k
  · cases x with
    | lst h _ q => exact .lst (.inl (.inl h)) (rsv1s_dp G q (by simpa only [okD] using k))
  · cases x with
    | tup h q => exact .tup (.inl (.inl h)) (rsv1s_dp G q (by simpa only [okD] using k))
  · rename_i n1 n2 n3
    refine x.dp 64 ?_
    split at k
    · exact absurd rfl (n1 _)
    · exact absurd rfl (n2 _)
    · exact absurd rfl (n3 _)
    · exact k
def deq (x y : D) : Bool := PyData.eqv (pd x) (pd y)
def fEq (neg : Bool) : R → R → GH → QK → Prop := fun x y g Q => ∃ d e, resR g x d ∧ resR g y e ∧ okD 64 d = true ∧ okD 64 e = true ∧ Q (.v (.bl (neg ^^ deq d e))) g
theorem ok_eq {K : PySem.W.Frag} : R2Ok K (fEq false) (rEqD K) := fun x y d e B H g Q0 Q rx ry rg ⟨a, b, ha, hb, ka, kb, q⟩ c =>
  ⟨_, _, ha.dp rg.un rx.un ka, hb.dp rg.un ry.un kb, okD_shaped ka, okD_shaped kb, c.here q (by rw [Bool.false_xor]; exact .bl _) rg⟩
theorem ok_ne {K : PySem.W.Frag} : R2Ok K (fEq true) (rNeD K) := fun x y d e B H g Q0 Q rx ry rg ⟨a, b, ha, hb, ka, kb, q⟩ c =>
  ⟨_, _, ha.dp rg.un rx.un ka, hb.dp rg.un ry.un kb, okD_shaped ka, okD_shaped kb, c.here q (by rw [Bool.true_xor]; exact .bl _) rg⟩
/-- is None -/
def isNon : D → Bool
  | .non => true
  | _ => false
def fIsN (neg : Bool) : R → R → GH → QK → Prop := fun x y g Q => match y with
  | .v .non => Q (.v (.bl (neg ^^ isNon x.fz))) g
  | _ => False
theorem isNon_rep {K : PySem.W.Frag} {H : Hp} {g : GH} {v : V} {d : D} (r : Rep K H g v d) : decide (v = .non) = isNon d := by
  cases r <;> first | rfl | exact decide_eq_false (fun e => by cases e)
theorem ok_isN {K : PySem.W.Frag} : R2Ok K (fIsN false) (fun x y H Q => y = .non ∧ Q (.bl (decide (x = .non))) H) := fun x y d e B H g Q0 Q rx ry rg q c => by
  unfold fIsN at q
  split at q
  · refine ⟨by cases ry; rfl, ?_⟩
    rw [isNon_rep rx]
    rw [Bool.false_xor] at q
    exact c.here q (.bl _) rg
  · exact q.elim
theorem ok_notN {K : PySem.W.Frag} : R2Ok K (fIsN true) (fun x y H Q => y = .non ∧ Q (.bl (!decide (x = .non))) H) := fun x y d e B H g Q0 Q rx ry rg q c => by
  unfold fIsN at q
  split at q
  · refine ⟨by cases ry; rfl, ?_⟩
    rw [isNon_rep rx]
    rw [Bool.true_xor] at q
    exact c.here q (.bl _) rg
  · exact q.elim

/-! ### in -/
theorem flat_dp {K : PySem.W.Frag} {H : Hp} {g : GH} {v : V} {d : D} (r : Rep K H g v d) (k : okD 0 d = true) : flatV v = true := by
  cases r with
  | non => rfl
  | bl b => rfl
  | int i => rfl
  | str x => rfl
  | _ => simp [okD] at k
theorem flats_dp {K : PySem.W.Frag} {H : Hp} {g : GH} : ∀ {v : List V} {d : List D}, Reps K H g v d → okDs 0 d = true → v.all flatV = true
  | _, _, .nil, _ => rfl
  | _, _, .cons h r, k => by
    simp only [okDs, Bool.and_eq_true] at k
    rw [List.all_cons, flat_dp h k.1, flats_dp r k.2]
    rfl
theorem eqV_deq {K : PySem.W.Frag} {H : Hp} {g : GH} {v w : V} {d e : D} (r : Rep K H g v d) (q : Rep K H g w e) (k : okD 0 d = true) (l : okD 0 e = true) : eqV v w = deq d e := by
  cases r with
  | tup h r => simp [okD] at k
  | lst h _ r => simp [okD] at k
  | ty n => simp [okD] at k
  | ref n => simp [okD] at k
  | rl _ _ => simp [okD] at k
  | gl _ => simp [okD] at k
  | exc0 _ _ _ => simp [okD] at k
  | exc1 _ _ _ _ _ => simp [okD] at k
  | _ => cases q with
    | tup h r => simp [okD] at l
    | lst h _ r => simp [okD] at l
    | ty n => simp [okD] at l
    | ref n => simp [okD] at l
    | rl _ _ => simp [okD] at l
    | gl _ => simp [okD] at l
    | exc0 _ _ _ => simp [okD] at l
    | exc1 _ _ _ _ _ => simp [okD] at l
    | _ => simp [eqV, deq, pd, PyData.eqv]
def inD (x : D) (xs : List D) : Bool := xs.any fun y => deq y x
theorem inV_inD {K : PySem.W.Frag} {H : Hp} {g : GH} {x : V} {d : D} (r : Rep K H g x d) (k : okD 0 d = true) : ∀ {vs : List V} {ds : List D}, Reps K H g vs ds → okDs 0 ds = true → inV x vs = inD d ds
  | _, _, .nil, _ => rfl
  | _, _, .cons h t, l => by
    simp only [okDs, Bool.and_eq_true] at l
    have e := inV_inD r k t l.2
    unfold inV inD at e ⊢
    rw [List.any_cons, List.any_cons, eqV_deq h r l.1 k, e]
/-- x in a list or tuple of flat things -/
def fIn (neg : Bool) : R → R → GH → QK → Prop := fun x y g Q => ∃ a, rdOf g y a ∧ okD 0 x.fz = true ∧ okDs 0 a = true ∧ Q (.v (.bl (if neg then !inD x.fz a else inD x.fz a))) g
theorem ok_in {K : PySem.W.Frag} {neg : Bool} : R2Ok K (fIn neg) (rIn K neg) := fun x y d e B H g Q0 Q rx ry rg ⟨a, ha, kx, ka, q⟩ c => by
  obtain ⟨p, vs, rfl, hp, r1⟩ := ha.rep rg.rg ry
  refine ⟨p, vs, rfl, hp.imp (fun h => by
    rcases h with (h | ⟨o, h⟩) | h
    · exact .inl (.inl (of_hide h).1)
    · exact .inl (.inr ⟨o, (of_hide h).1⟩)
    · exact .inr h) sqT_un, flat_dp rx kx, flats_dp r1 ka, ?_⟩
  rw [inV_inD rx kx r1 ka]
  exact c.here q (.bl _) rg
theorem pds_any {x : D} : ∀ (ds : List D), (pds ds).any (fun z => PyData.eqv z (pd x)) = inD x ds
  | [] => rfl
  | d :: ds => by
    have e := pds_any (x := x) ds
    unfold inD at e ⊢
    simp only [pds, List.any_cons, e]
    rfl
/-- x in a list of data -/
def fInD (neg : Bool) : R → R → GH → QK → Prop := fun x y g Q => ∃ a, lstOf g y a ∧ okD 64 x.fz = true ∧ okDs 63 a = true ∧ Q (.v (.bl (if neg then !inD x.fz a else inD x.fz a))) g
theorem fInD_dp {K : PySem.W.Frag} {H : Hp} {g : GH} {v : V} {r : R} {a : List D} (rg : RepG K H g) (ry : Rep K H g v r.fz) (ha : lstOf g r a) (ka : okDs 63 a = true) : Dp K H v (.list (pds a)) ∧ SeqAt.shaped (.list (pds a)) = true := by
  obtain ⟨p, vs, rfl, hp, r1⟩ := ha.rep rg ry
  have k : okD 64 (.lst a) = true := by simpa only [okD] using ka
  exact ⟨.lst (.inl (.inl hp)) (r1.dp 63 ka), okD_shaped k⟩
theorem ok_inD {K : PySem.W.Frag} : R2Ok K (fInD false) (rInD K) := fun x y d e B H g Q0 Q rx ry rg ⟨a, ha, kx, ka, q⟩ c => by
  obtain ⟨h1, h2⟩ := fInD_dp rg.un ry.un ha ka
  exact ⟨_, _, rx.un.dp 64 kx, h1, okD_shaped kx, h2, by rw [pds_any]; exact c.here q (.bl _) rg⟩
theorem ok_notInD {K : PySem.W.Frag} : R2Ok K (fInD true) (rNotInD K) := fun x y d e B H g Q0 Q rx ry rg ⟨a, ha, kx, ka, q⟩ c => by
  obtain ⟨h1, h2⟩ := fInD_dp rg.un ry.un ha ka
  exact ⟨_, _, rx.un.dp 64 kx, h1, okD_shaped kx, h2, by rw [pds_any]; exact c.here q (.bl _) rg⟩
end G3
/-! G3: what is walked, comprehensions, statements -/
namespace G3
open PySem L2

/-! ### tracking a new list -/
def wTrk (ta : TD) : TD := fun ρ g Q W => ta ρ g (fun r g1 => match r with | .tl ds => ∀ p, g1 p = none → Q (.v (.ref p)) (gup g1 p (.lst ds)) | _ => False) W
theorem Fr.track {H H' : Hp} {g g' : GH} {p : Addr} {o : DO} (f : Fr H g H' g') (hp : H p = none) : Fr H g H' (gup g' p o) :=
  ⟨fun b w h k => ⟨(f.keep b w h k).1, by rw [gup_ne (ne_of_none h hp)]; exact (f.keep b w h k).2⟩, f.dom⟩
section
variable {X : Cx} {e : Expr} {ta : TD} {E : L2.St → XK}
theorem trk_imp {K : PySem.W.Frag} {σ : L2.St} {H : Hp} {Q : VK} (h : LE K E (wTrk ta) σ H Q) : LE K E ta σ H Q :=
  match h with
  | ⟨B, ρ, g, Q0, W0, rs, rg, t, c, xc⟩ =>
    ⟨B, ρ, g, _, W0, rs, rg, t, fun r g1 x H1 hb rd rg1 f1 fr => by
      match r, rd, hb, fr with
      | .tl ds, rd, hb, fr =>
        obtain ⟨a, vs, H0, rfl, ha, hl, h0, rg0, r0⟩ := fr ds rfl
        have ga : g1 a = none := by cases rd with | lst _ k _ => exact k
        exact c _ _ _ _ (hb a ga) (.ref a) ⟨rg1.dom, RepG.track (by rw [hide_out (fun m => rg.dom a m ha)]; exact hl) h0 rg0 (.lst r0)⟩ (f1.track ha) .no
      | .v _, rd, hb, fr => exact hb.elim, xc⟩
theorem q_trk (h : PE X e (LE X.K E ta)) : PE X e (LE X.K E (wTrk ta)) := PE.of h fun σ H Q h => trk_imp h
end

/-! ### what is walked -/
abbrev TID := DEnv → GH → (List D → (GH → Prop) → GH → Prop) → XKD → Prop
def ItOk (K : PySem.W.Frag) (B : List Addr) (H0 : Hp) (g0 : GH) (J : It) (ds : List D) (gd : GH → Prop) : Prop :=
  ∀ (B' : List Addr) i H g, (∀ b ∈ B, b ∈ B') → (∀ b ∈ B', b ∉ B → H0 b = none) → Vw K B' H g → Fr H0 g0 H g → gd g →
    (∀ d, ds[i]? = some d → J.go i H ∧ ∀ x H', J.yld i H x H' → Rep K (hide H' B') g x d ∧ Vw K B' H' g ∧ Fr H g H' g) ∧ (i = ds.length → J.stop i H)
def ContI (K : PySem.W.Frag) (B : List Addr) (H : Hp) (g : GH) (Q0 : List D → (GH → Prop) → GH → Prop) (R : It → Hp → Prop) : Prop :=
  ∀ ds gd g' J H', Q0 ds gd g' → ItOk K B H' g' J ds gd → Vw K B H' g' → Fr H g H' g' → R J H'
def LI (K : PySem.W.Frag) (E : L2.St → XK) (t : TID) : TI := fun σ H R => ∃ B ρ g Q0 W0, RepS K (hide H B) g σ ρ ∧ Vw K B H g ∧ t ρ g Q0 W0 ∧ ContI K B H g Q0 R ∧ XCont K B H g W0 (E σ)
theorem ContI.after {K : PySem.W.Frag} {B : List Addr} {H H1 : Hp} {g g1 : GH} {Q0 : List D → (GH → Prop) → GH → Prop} {R : It → Hp → Prop} (f : Fr H g H1 g1) (c : ContI K B H g Q0 R) : ContI K B H1 g1 Q0 R :=
  fun ds gd g' J H' q o rg f' => c ds gd g' J H' q o rg (f.trans f')
theorem PI.of {X : Cx} {tg e : Expr} {t t' : TI} (h : PI X tg e t') (i : ∀ σ H R, t σ H R → t' σ H R) : PI X tg e t := ⟨fun pins s σ H R I q => h.run pins s σ H R I (i σ H R q)⟩
/-- a list that is walked stands at each turn -/
def gdOf : R → List D → GH → Prop
  | .v (.ref a), xs, g => g a = some (.lst xs)
  | _, _, _ => True
def wSeqL (ta : TD) : TID := fun ρ g Q W => ta ρ g (fun r g1 => ∃ xs, lstOf g1 r xs ∧ Q xs (gdOf r xs) g1) W
def wSeqT (ta : TD) : TID := fun ρ g Q W => ta ρ g (fun r g1 => ∃ xs, tupOf r xs ∧ Q xs (fun _ => True) g1) W
section
variable {X : Cx} {e tg : Expr} {ta : TD} {tr : TAD} {E : L2.St → XK} {K : PySem.W.Frag}
theorem hide_more {H : Hp} {B B' : List Addr} {b : Addr} {o : HO} (h : hide H B b = some o) (n : b ∈ B' → b ∉ B → H b = none) : b ∉ B' := fun m => by
  obtain ⟨h1, h2⟩ := of_hide h
  rw [n m h2] at h1; cases h1
/-- what is seen stays seen where more is hidden that wasn't there -/
theorem Rep.more {H0 H : Hp} {g0 g : GH} {B B' : List Addr} (w : Vw K B H0 g0) (f : Fr H0 g0 H g) (n : ∀ b ∈ B', b ∉ B → H0 b = none) {v : V} {d : D} (r : Rep K (hide H0 B) g0 v d) : Rep K (hide H B') g v d := by
  have k : ∀ b o, hide H0 B b = some o → g0 b = none → hide H B' b = some o ∧ g b = none := fun b o h gn => by
    obtain ⟨h1, h2⟩ := f.keep b o (of_hide h).1 gn
    exact ⟨by rw [hide_out (hide_more h fun m1 m2 => n b m1 m2)]; exact h1, h2⟩
  have nt : ∀ b o, hide H0 B b = some o → (∀ u, ¬ RepO K (hide H0 B) g0 o u) → g0 b = none := fun b o h z => w.rg.nt h z
  exact r.mono (fun a vs h => (k a _ h (nt a _ h fun u r => by cases r)).1) (fun a o u h => (k a _ h (nt a _ h fun u r => by cases r)).1) fun a vs h gn => k a _ h gn
theorem Reps.more {H0 H : Hp} {g0 g : GH} {B B' : List Addr} (w : Vw K B H0 g0) (f : Fr H0 g0 H g) (n : ∀ b ∈ B', b ∉ B → H0 b = none) : ∀ {v : List V} {d : List D}, Reps K (hide H0 B) g0 v d → Reps K (hide H B') g v d
  | _, _, .nil => .nil
  | _, _, .cons r t => .cons (r.more w f n) (Reps.more w f n t)
theorem RepS.more {H0 H : Hp} {g0 g : GH} {B B' : List Addr} (w : Vw K B H0 g0) (f : Fr H0 g0 H g) (n : ∀ b ∈ B', b ∉ B → H0 b = none) {σ : L2.St} {ρ : DEnv} (r : RepS K (hide H0 B) g0 σ ρ) : RepS K (hide H B') g σ ρ :=
  ⟨r.len, fun i d e => let ⟨v, h, q⟩ := r.at_ i d e; ⟨v, h, q.more w f n⟩⟩
theorem itL {B : List Addr} {H0 : Hp} {g0 : GH} {a : Addr} {vs : List V} {ds : List D} (h : H0 a = some (.lst vs)) (k : g0 a = none) (G : Vw K B H0 g0) (r : Reps K (hide H0 B) g0 vs ds) : ItOk K B H0 g0 (Itl K a) ds fun _ => True := fun B' i H g _ n rg f _ => by
  obtain ⟨h', k'⟩ := f.keep a _ h k
  have r' := r.more G f n
  refine ⟨fun d hd => ?_, fun hi => ⟨vs, .inl (.inl h'), by rw [r'.length, hi]; exact Nat.le_refl _⟩⟩
  obtain ⟨v, hv, q⟩ := r'.get hd
  refine ⟨⟨vs, v, .inl (.inl h'), hv⟩, fun x H' hy => ?_⟩
  obtain ⟨rfl, hx⟩ := hy
  have e := hx vs (.inl (.inl h'))
  rw [hv] at e; cases e
  exact ⟨q, rg, Fr.refl _ _⟩
theorem itR {B : List Addr} {H0 : Hp} {g0 : GH} {a : Addr} {ds : List D} : ItOk K B H0 g0 (Itl K a) ds fun g => g a = some (.lst ds) := fun B' i H g _ n rg f ga => by
  obtain ⟨u, hu, q⟩ := rg.rg a _ ga
  cases q with
  | @lst vs _ r' =>
    have hu := (of_hide hu).1
    refine ⟨fun d hd => ?_, fun hi => ⟨vs, .inl (.inl hu), by rw [r'.length, hi]; exact Nat.le_refl _⟩⟩
    obtain ⟨v, hv, q⟩ := r'.get hd
    refine ⟨⟨vs, v, .inl (.inl hu), hv⟩, fun x H' hy => ?_⟩
    obtain ⟨rfl, hx⟩ := hy
    have e := hx vs (.inl (.inl hu))
    rw [hv] at e; cases e
    exact ⟨q, rg, Fr.refl _ _⟩
theorem itT {B : List Addr} {H0 : Hp} {g0 : GH} {a : Addr} {vs : List V} {ds : List D} (h : SqT K (hide H0 B) a vs) (G : Vw K B H0 g0) (r : Reps K (hide H0 B) g0 vs ds) : ItOk K B H0 g0 (Itt K a) ds fun _ => True := fun B' i H g _ n rg f _ => by
  have h' : SqT K H a vs := (f.hd B).sqT G.rg h |> sqT_un
  have r' := r.more G f n
  refine ⟨fun d hd => ?_, fun hi => ⟨vs, h', by rw [r'.length, hi]; exact Nat.le_refl _⟩⟩
  obtain ⟨v, hv, q⟩ := r'.get hd
  refine ⟨⟨vs, v, h', hv⟩, fun x H' hy => ?_⟩
  obtain ⟨rfl, hx⟩ := hy
  have e := hx vs h'
  rw [hv] at e; cases e
  exact ⟨q, rg, Fr.refl _ _⟩
theorem lstOf.cases {B : List Addr} {H : Hp} {g : GH} {v : V} {r : R} {xs : List D} (G : Vw K B H g) (h : Rep K (hide H B) g v r.fz) (l : lstOf g r xs) : ∃ a vs, v = .ref a ∧ H a = some (.lst vs) ∧ Reps K (hide H B) g vs xs ∧ ItOk K B H g (Itl K a) xs (gdOf r xs) := by
  match r, h, l with
  | .tl ds, .lst h k q, l => cases l; exact ⟨_, _, rfl, (of_hide h).1, q, itL (of_hide h).1 k G q⟩
  | .v (.lst ds), .lst h k q, l => cases l; exact ⟨_, _, rfl, (of_hide h).1, q, itL (of_hide h).1 k G q⟩
  | .v (.ref a), .ref _, l =>
    obtain ⟨u, hu, q⟩ := G.rg a _ l
    cases q with
    | lst q => exact ⟨a, _, rfl, (of_hide hu).1, q, itR⟩
theorem q_seqL (h : PI X tg e (iList X.K (LE X.K E ta))) : PI X tg e (LI X.K E (wSeqL ta)) :=
  PI.of h fun σ H R ⟨B, ρ, g, Q0, W0, rs, rg, t, c, xc⟩ =>
    ⟨B, ρ, g, _, W0, rs, rg, t, fun r g1 x H1 ⟨xs, hl, hq⟩ rd rg1 f1 _ => by
      obtain ⟨a, vs, rfl, ha, rv, io⟩ := lstOf.cases rg1 rd hl
      exact ⟨a, rfl, ⟨vs, .inl (.inl ha)⟩, c xs _ g1 _ H1 hq io rg1 f1⟩, xc⟩
theorem q_seqT (h : PI X tg e (iTup X.K (LE X.K E ta))) : PI X tg e (LI X.K E (wSeqT ta)) :=
  PI.of h fun σ H R ⟨B, ρ, g, Q0, W0, rs, rg, t, c, xc⟩ =>
    ⟨B, ρ, g, _, W0, rs, rg, t, fun r g1 x H1 ⟨xs, hl, hq⟩ rd rg1 f1 _ => by
      obtain ⟨a, vs, rfl, ha, rv⟩ := hl.rep rd
      exact ⟨a, rfl, ⟨vs, sqT_un ha⟩, c xs _ g1 _ H1 hq (itT ha rg1 rv) rg1 f1⟩, xc⟩
/-- a text's signs -/
def txtD (x : Str) : List D := x.cps.toList.map fun c => .str ⟨#[c]⟩
theorem itStr {B : List Addr} {H0 : Hp} {g0 : GH} {x : Str} : ItOk K B H0 g0 (Its x) (txtD x) fun _ => True := fun B' i H g _ _ rg f _ => by
  refine ⟨fun d hd => ?_, fun hi => by unfold txtD at hi; rw [List.length_map, Array.length_toList] at hi; exact Nat.le_of_eq hi.symm⟩
  unfold txtD at hd
  rw [List.getElem?_map] at hd
  obtain ⟨c, hc, rfl⟩ := Option.map_eq_some_iff.mp hd
  rw [Array.getElem?_toList] at hc
  have hi := (Array.getElem?_eq_some_iff.mp hc).1
  refine ⟨hi, fun y H' hy => ?_⟩
  obtain ⟨rfl, c', hc', rfl⟩ := hy
  rw [hc] at hc'; cases hc'
  exact ⟨.str _, rg, Fr.refl _ _⟩
def wText (ta : TD) : TID := fun ρ g Q W => ta ρ g (fun r g1 => match r with | .v (.str x) => Q (txtD x) (fun _ => True) g1 | _ => False) W
theorem q_text (h : PI X tg e (iStr (LE X.K E ta))) : PI X tg e (LI X.K E (wText ta)) :=
  PI.of h fun σ H R ⟨B, ρ, g, Q0, W0, rs, rg, t, c, xc⟩ =>
    ⟨B, ρ, g, _, W0, rs, rg, t, fun r g1 x H1 hq rd rg1 f1 _ => by
      match r, rd, hq with
      | .v (.str z), rd, hq =>
        cases rd
        exact ⟨z, rfl, c _ _ g1 _ H1 hq itStr rg1 f1⟩, xc⟩
/-- lo, lo + 1, .. -/
def rngD (lo : Int) (n : Nat) : List D := (List.range n).map fun (i : Nat) => D.int (lo + i)
theorem itRng {B : List Addr} {H0 : Hp} {g0 : GH} {lo : Int} {n : Nat} : ItOk K B H0 g0 (Itr lo n) (rngD lo n) fun _ => True := fun B' i H g _ _ rg f _ => by
  refine ⟨fun d hd => ?_, fun hi => by unfold rngD at hi; rw [List.length_map, List.length_range] at hi; exact Nat.le_of_eq hi.symm⟩
  unfold rngD at hd
  rw [List.getElem?_map] at hd
  by_cases hi : i < n
  · rw [List.getElem?_range hi] at hd
    cases hd
    exact ⟨hi, fun x H' hy => by
      obtain ⟨rfl, rfl⟩ := hy
      exact ⟨.int _, rg, Fr.refl _ _⟩⟩
  · rw [List.getElem?_eq_none (by rw [List.length_range]; omega)] at hd
    cases hd
def wRng1 (tr : TAD) : TID := fun ρ g Q W => tr ρ g (fun ds g1 => match ds with | [.int j] => -(2 ^ 62) ≤ j ∧ j < 2 ^ 62 ∧ Q (rngD 0 j.toNat) (fun _ => True) g1 | _ => False) W
def wRng2 (tr : TAD) : TID := fun ρ g Q W => tr ρ g (fun ds g1 => match ds with | [.int i, .int j] => (-(2 ^ 62) ≤ i ∧ i < 2 ^ 62 ∧ -(2 ^ 62) ≤ j ∧ j < 2 ^ 62) ∧ Q (rngD i (j - i).toNat) (fun _ => True) g1 | _ => False) W
theorem q_rng1 (h : PI X tg e (iRng1 (LA X.K E tr))) : PI X tg e (LI X.K E (wRng1 tr)) :=
  PI.of h fun σ H R ⟨B, ρ, g, Q0, W0, rs, rg, t, c, xc⟩ =>
    ⟨B, ρ, g, _, W0, rs, rg, t, fun ds g1 vs H1 hq rd rg1 f1 => by
      dsimp only at hq
      split at hq
      · cases rd with
        | cons r1 r2 =>
          cases r2
          exact ⟨_, by rw [int_of r1], hq.1, hq.2.1, c _ _ g1 _ H1 hq.2.2 itRng rg1 f1⟩
      · exact hq.elim, xc⟩
theorem q_rng2 (h : PI X tg e (iRng2 (LA X.K E tr))) : PI X tg e (LI X.K E (wRng2 tr)) :=
  PI.of h fun σ H R ⟨B, ρ, g, Q0, W0, rs, rg, t, c, xc⟩ =>
    ⟨B, ρ, g, _, W0, rs, rg, t, fun ds g1 vs H1 hq rd rg1 f1 => by
      dsimp only at hq
      split at hq
      · cases rd with
        | cons r1 r2 =>
          cases r2 with
          | cons r2 r3 =>
            cases r3
            exact ⟨_, _, by rw [int_of r1, int_of r2], hq.1, c _ _ g1 _ H1 hq.2 itRng rg1 f1⟩
      · exact hq.elim, xc⟩
end

/-! ### targets of a loop: a name, or a tuple of names -/
def setAll (ρ : DEnv) : List Nat → List D → DEnv
  | i :: is, d :: ds => setAll (ρ.set i (some d)) is ds
  | _, _ => ρ
inductive Tg where
  | nm (i : Nat) | tp (is : List Nat)
  /-- of a list -/
  | tl (is : List Nat)
def tgB : Tg → D → DEnv → (DEnv → Prop) → Prop
  | .nm i, d, ρ, Q => Q (ρ.set i (some d))
  | .tp is, .tup ds, ρ, Q => is.length = ds.length ∧ Q (setAll ρ is ds)
  | .tl is, .lst ds, ρ, Q => is.length = ds.length ∧ Q (setAll ρ is ds)
  | .tl _, _, _, _ => False
  | .tp _, _, _, _ => False
def gNames : List Nat → TGs
  | [] => gNil
  | i :: is => gCons (gName i) (gNames is)
def gTg (K : PySem.W.Frag) : Tg → TG
  | .nm i => gName i
  | .tp is => gTup K is.length (gNames is)
  | .tl is => gLst K is.length (gNames is)
section
variable {K : PySem.W.Frag}
theorem gNames_ok {B : List Addr} {H : Hp} {g : GH} : ∀ {is : List Nat} {vs : List V} {ds : List D} {σ : L2.St} {ρ : DEnv} {Q : L2.St → Hp → Prop} {Q0 : DEnv → Prop}, is.length = ds.length → Reps K (hide H B) g vs ds → RepS K (hide H B) g σ ρ → Q0 (setAll ρ is ds) →
    (∀ σ' ρ', Q0 ρ' → RepS K (hide H B) g σ' ρ' → (∀ js : List Nat, (∀ j ∈ is, j ∈ js) → wipe σ' js = wipe σ js) → Q σ' H) → gNames is vs σ H Q
  | [], _, _, σ, ρ, Q, Q0, hl, r, rs, q, k => by
    cases r with
    | nil => exact ⟨rfl, k σ ρ q rs fun _ _ => rfl⟩
    | cons _ _ => simp at hl
  | i :: is, _, _, σ, ρ, Q, Q0, hl, r, rs, q, k => by
    cases r with
    | nil => simp at hl
    | cons r1 r2 =>
      refine ⟨_, _, rfl, ?_⟩
      refine gNames_ok (is := is) (Q0 := Q0) (by simpa using hl) r2 (rs.set r1) q fun σ' ρ' h1 h2 h3 => k σ' ρ' h1 h2 fun js hj => ?_
      rw [h3 js fun j m => hj j (List.mem_cons_of_mem _ m)]
      exact wipe_set (hj i List.mem_cons_self)
where
  wipe_set {σ : L2.St} {i : Nat} {v : Option V} : ∀ {js : List Nat}, i ∈ js → wipe (σ.set i v) js = wipe σ js
  | [], h => by simp at h
  | j :: js, h => by
    unfold wipe
    by_cases hm : i ∈ js
    · rw [wipe_set hm]
    · have e : i = j := by
        rcases List.mem_cons.mp h with e | e
        · exact e
        · exact absurd e hm
      subst e
      rw [wipe_comm hm, List.set_set]
  wipe_comm {σ : L2.St} {i : Nat} {v : Option V} : ∀ {js : List Nat}, i ∉ js → wipe (σ.set i v) js = (wipe σ js).set i v
  | [], _ => rfl
  | j :: js, h => by
    unfold wipe
    have h1 : i ≠ j := fun e => h (by rw [e]; exact List.mem_cons_self)
    rw [wipe_comm fun m => h (List.mem_cons_of_mem _ m), List.set_comm _ _ h1]
def Tg.all : Tg → List Nat
  | .nm i => [i]
  | .tp is => is
  | .tl is => is
theorem gTg_ok {B : List Addr} {H : Hp} {g : GH} {tg : Tg} {v : V} {d : D} {σ : L2.St} {ρ : DEnv} {Q : L2.St → Hp → Prop} {Q0 : DEnv → Prop} (r : Rep K (hide H B) g v d) (rs : RepS K (hide H B) g σ ρ) (q : tgB tg d ρ Q0)
    (k : ∀ σ' ρ', Q0 ρ' → RepS K (hide H B) g σ' ρ' → (∀ js : List Nat, (∀ j ∈ tg.all, j ∈ js) → wipe σ' js = wipe σ js) → Q σ' H) : gTg K tg v σ H Q := by
  cases tg with
  | nm i => exact k _ _ q (rs.set r) fun js hj => gNames_ok.wipe_set (hj i List.mem_cons_self)
  | tp is =>
    cases d with
    | tup ds =>
      cases r with
      | @tup a vs _ ha rv => exact ⟨a, vs, rfl, .inl (.inl (of_hide ha).1), by rw [rv.length, q.1], gNames_ok q.1 rv rs q.2 k⟩
    | _ => exact q.elim
  | tl is =>
    cases d with
    | lst ds =>
      cases r with
      | @lst a vs _ ha _ rv => exact ⟨a, vs, rfl, .inl (.inl (of_hide ha).1), by rw [rv.length, q.1], gNames_ok q.1 rv rs q.2 k⟩
    | _ => exact q.elim
end

/-! ### list comprehensions -/
/-- st: a turn, none where the item is left out -/
def compW (gd : GH → Prop) (st : D → GH → (Option R → GH → Prop) → Prop) : List D → List D → GH → (List D → GH → Prop) → Prop
  | [], acc, g, Q => gd g ∧ Q acc g
  | d :: ds, acc, g, Q => gd g ∧ acc.length < sizeLine ∧ st d g fun o g1 => match o with | some r => compW gd st ds (acc ++ [r.fz]) g1 Q | none => compW gd st ds acc g1 Q
def noX : XKD := fun _ _ => False
def compT (own : List Nat) (tg : Tg) (tc : TTD) (te : TD) (ρ : DEnv) (d : D) (g : GH) (P : Option R → GH → Prop) : Prop :=
  tgB tg d (wipeD ρ own) fun ρ' => tc ρ' g (fun b g1 => if b = true then te ρ' g1 (fun r g2 => P (some r) g2) noX else P none g1) noX
/-- own: the slots of the block's own names -/
def wComp (own : List Nat) (ti : TID) (tg : Tg) (tc : TTD) (te : TD) : TD := fun ρ g Q W => ti ρ g (fun ds gd g1 => compW gd (compT own tg tc te ρ) ds [] g1 fun ys g2 => Q (.tl ys) g2) W
def wYes : TTD := fun _ g Q _ => Q true g
theorem wYes_ok {K : PySem.W.Frag} {E : L2.St → XK} {σ : L2.St} {H : Hp} {Q : Bool → Hp → Prop} (h : LT K E wYes σ H Q) : tYes σ H Q := by
  obtain ⟨B, ρ, g, Q0, W0, rs, rg, t, c, xc⟩ := h
  exact c true g H t rg (Fr.refl _ _)
abbrev E0s : L2.St → XK := fun _ _ _ _ => False
theorem wipe_len {σ : L2.St} : ∀ {js : List Nat}, (wipe σ js).length = σ.length
  | [] => rfl
  | j :: js => by unfold wipe; rw [List.length_set, wipe_len]
theorem wipe_get {σ : L2.St} {i : Nat} : ∀ {js : List Nat}, i ∈ js → i < σ.length → (wipe σ js)[i]? = some none
  | [], h, _ => by simp at h
  | j :: js, h, hi => by
    unfold wipe
    by_cases e : j = i
    · subst e; exact List.getElem?_set_self (by rw [wipe_len]; exact hi)
    · rw [List.getElem?_set_ne e]
      exact wipe_get ((List.mem_cons.mp h).resolve_left fun z => e z.symm) hi
theorem wipe_wipe {σ : L2.St} {js : List Nat} : wipe (wipe σ js) js = wipe σ js := by
  have : ∀ ks : List Nat, (∀ k ∈ ks, k ∈ js) → wipe (wipe σ js) ks = wipe σ js := by
    intro ks
    induction ks with
    | nil => intro _; rfl
    | cons k ks ih =>
      intro h
      show (wipe (wipe σ js) ks).set k none = wipe σ js
      rw [ih fun z hz => h z (List.mem_cons_of_mem _ hz)]
      by_cases hk : k < σ.length
      · refine List.ext_getElem? fun n => ?_
        by_cases e : k = n
        · subst e
          rw [List.getElem?_set_self (by rw [wipe_len]; exact hk), wipe_get (h k List.mem_cons_self) hk]
        · rw [List.getElem?_set_ne e]
      · exact List.set_eq_of_length_le (by rw [wipe_len]; exact Nat.le_of_not_lt hk)
  exact this js fun _ h => h
section
variable {X : Cx} {e : Expr} {tc : TTD} {te : TD} {ti : TID} {E : L2.St → XK} {tg : Tg} {own : List Nat}
theorem comp_imp {K : PySem.W.Frag} (hown : ∀ j ∈ tg.all, j ∈ own) {σ : L2.St} {H : Hp} {Q : VK} (h : LE K E (wComp own ti tg tc te) σ H Q) : tLc (LI K E ti) (gTg K tg) (LT K E0s tc) (LE K E0s te) own σ H Q := by
  obtain ⟨B, ρ, g, Q0, W0, rs, rg, t, c, xc⟩ := h
  refine ⟨B, ρ, g, _, W0, rs, rg, t, fun ds gd g1 J H1 hq io rg1 f1 D hD => ?_, xc⟩
  have c1 := c.after f1
  have rs1 := rs.fv rg f1
  have nD : D ∉ B := rg1.new hD
  have nB : ∀ b ∈ D :: B, b ∉ B → H1 b = none := fun b h1 h2 => by
    rcases List.mem_cons.mp h1 with e | e
    · rw [e]; exact hD
    · exact absurd e h2
  -- what stands at each turn: D holds what is made so far, hidden from all else
  refine ⟨fun i m H' => m = ds.length - i ∧ i ≤ ds.length ∧ ∃ g' acc vs, H' D = some (.lst vs) ∧ g' D = none ∧ Vw K (D :: B) H' g' ∧ Fr H1 g1 H' g' ∧ Reps K (hide H' (D :: B)) g' vs acc ∧
      compW gd (compT own tg tc te ρ) (ds.drop i) acc g' fun ys g2 => Q0 (.tl ys) g2, ⟨ds.length, by simp, Nat.zero_le _, g1, [], [], upd_same, (Fr.laidV (u := .lst []) hD rg1).2.2, ?_, (Fr.laidV hD rg1).1, .nil, hq⟩, ?_⟩
  · refine ⟨fun b m => ?_, fun a o e => ?_⟩
    · rcases List.mem_cons.mp m with e | e
      · subst e; rw [upd_same]; simp
      · exact (Fr.laidV (u := .lst []) hD rg1).2.1.dom b e
    · obtain ⟨u, hu, r⟩ := rg1.rg a o e
      have ha : a ∉ D :: B := hide_more hu fun m1 m2 => nB a m1 m2
      exact ⟨u, by rw [hide_out ha, upd_ne (ne_of_none (of_hide hu).1 hD)]; exact (of_hide hu).1, r.mono fun _ _ x => x.more rg1 (Fr.laidV hD rg1).1 nB⟩
  rintro i m H' ⟨rfl, hi, g', acc, vs, hH, gD, w', f', ra, hw⟩
  have sB : ∀ b ∈ B, b ∈ D :: B := fun b m => List.mem_cons_of_mem _ m
  by_cases hl : i = ds.length
  · subst hl
    rw [List.drop_length] at hw
    refine .inl ⟨(io _ _ _ g' sB nB w' f' hw.1).2 rfl, ?_⟩
    have hs : ∀ b u, hide H' (D :: B) b = some u → b ≠ D ∧ hide H' B b = some u := fun b u h => by
      obtain ⟨h1, h2⟩ := of_hide h
      exact ⟨fun e => h2 (by rw [e]; exact List.mem_cons_self), by rw [hide_out fun m => h2 (List.mem_cons_of_mem _ m)]; exact h1⟩
    have un : ∀ v d, Rep K (hide H' (D :: B)) g' v d → Rep K (hide H' B) g' v d := fun v d r => r.mono (fun a vs h => (hs _ _ h).2) (fun a o u h => (hs _ _ h).2) fun a vs h k => ⟨(hs _ _ h).2, k⟩
    have wB : Vw K B H' g' := ⟨fun b m => w'.dom b (sB b m), fun a o e => by
      obtain ⟨u, hu, r⟩ := w'.rg a o e
      exact ⟨u, (hs _ _ hu).2, r.mono un⟩⟩
    refine c1 (.tl acc) g' (.ref D) H' hw.2 (.lst (by rw [hide_out nD]; exact hH) gD (ra.monoR un)) wB f' fun ds' e => ?_
    cases e
    exact ⟨D, vs, hide H' (D :: B), rfl, hD, hH, hs, w'.rg, ra⟩
  · have hi' : i < ds.length := by omega
    rw [List.drop_eq_getElem_cons hi'] at hw
    obtain ⟨hg, hz, hw⟩ := hw
    obtain ⟨go, yl⟩ := (io (D :: B) i _ g' sB nB w' f' hg).1 _ (List.getElem?_eq_getElem hi')
    refine .inr ⟨go, fun H'' => ∃ g'' acc' vs', H'' D = some (.lst vs') ∧ g'' D = none ∧ Vw K (D :: B) H'' g'' ∧ Fr H1 g1 H'' g'' ∧ Reps K (hide H'' (D :: B)) g'' vs' acc' ∧
      compW gd (compT own tg tc te ρ) (ds.drop (i + 1)) acc' g'' fun ys g2 => Q0 (.tl ys) g2, fun H'' w => ⟨ds.length - (i + 1), by omega, rfl, hi', w⟩, fun x H3 hy => ?_⟩
    obtain ⟨rx, w3, f3⟩ := yl x H3 hy
    have rsw : RepS K (hide H3 (D :: B)) g' (wipe σ own) (wipeD ρ own) := (rs1.more rg1 (f'.trans f3) nB).wipe own
    refine gTg_ok rx rsw hw fun σ2 ρ2 q2 rs2 hwi => ⟨by rw [hwi own hown, wipe_wipe], ?_⟩
    have k3 := f3.keep D _ hH gD
    refine ⟨D :: B, ρ2, g', _, noX, rs2, w3, q2, fun b g4 H4 hb w4 f4 => ?_, fun x g'' cls d H' z => z.elim⟩
    have k4 := f4.keep D _ k3.1 k3.2
    cases b with
    | false =>
      exact ⟨g4, acc, vs, k4.1, k4.2, w4, f'.trans (f3.trans f4), ra.fv w' (f3.trans f4), hb⟩
    | true =>
      refine ⟨D :: B, ρ2, g4, _, noX, rs2.fv w3 f4, w4, hb, fun r g5 y H5 hr ry w5 f5 _ => ?_, fun x g'' cls d H' z => z.elim⟩
      have k5 := f5.keep D _ k4.1 k4.2
      have ra5 := ra.fv w' (f3.trans (f4.trans f5))
      refine ⟨vs, k5.1, by rw [ra5.length]; exact hz, g5, acc ++ [r.fz], vs ++ [y], upd_same, k5.2, ?_, ?_, ?_, hr⟩
      · have e : hide (upd H5 D (.lst (vs ++ [y]))) (D :: B) = hide H5 (D :: B) := by
          funext b
          by_cases m : b ∈ D :: B
          · rw [hide_in m, hide_in m]
          · rw [hide_out m, hide_out m, upd_ne fun e => m (by rw [e]; exact List.mem_cons_self)]
        refine ⟨fun b m => ?_, by rw [e]; exact w5.rg⟩
        unfold upd; split
        · simp
        · exact w5.dom b m
      · have f6 := f'.trans (f3.trans (f4.trans f5))
        refine ⟨fun b o h k => ?_, fun b h => ?_⟩
        · have q := f6.keep b o h k
          exact ⟨by rw [upd_ne (ne_of_none h hD)]; exact q.1, q.2⟩
        · unfold upd; split
          · simp
          · exact f6.dom b h
      · have e : hide (upd H5 D (.lst (vs ++ [y]))) (D :: B) = hide H5 (D :: B) := by
          funext b
          by_cases m : b ∈ D :: B
          · rw [hide_in m, hide_in m]
          · rw [hide_out m, hide_out m, upd_ne fun e => m (by rw [e]; exact List.mem_cons_self)]
        rw [e]
        exact ra5.append (.one ry)
theorem q_comp (hown : ∀ j ∈ tg.all, j ∈ own) (h : PE X e (tLc (LI X.K E ti) (gTg X.K tg) (LT X.K E0s tc) (LE X.K E0s te) own)) : PE X e (LE X.K E (wComp own ti tg tc te)) := PE.of h fun σ H Q h => comp_imp hown h
end
end G3
/-! G3: statements -/
namespace G3
open PySem L2

structure DEnds where
  nx : DEnv → GH → Prop
  rt : QK
  ct : DEnv → GH → Prop
  ex : Exn → DEnv → GH → Prop
abbrev TSD := DEnds → DEnv → GH → Prop
structure ContS (K : PySem.W.Frag) (B : List Addr) (W : L2.WX) (H : Hp) (g : GH) (D0 : DEnds) (D : Ends) : Prop where
  nx : ∀ ρ' g' σ' H', D0.nx ρ' g' → RepS K (hide H' B) g' σ' ρ' → Vw K B H' g' → Fr H g H' g' → D.nx σ' H'
  rt : Cont K B H g D0.rt D.rt
  ct : ∀ ρ' g' σ' H', D0.ct ρ' g' → RepS K (hide H' B) g' σ' ρ' → Vw K B H' g' → Fr H g H' g' → D.ct σ' H'
  ex : ∀ x ρ' g' cls d σ' H', D0.ex x ρ' g' → ExOk K (hide H' B) g' x cls d → RepS K (hide H' B) g' σ' ρ' → Vw K B H' g' → Fr H g H' g' → W cls d σ' H'
def LS (K : PySem.W.Frag) (W : L2.WX) (t : TSD) : TS := fun D σ H => ∃ B ρ g D0, RepS K (hide H B) g σ ρ ∧ Vw K B H g ∧ t D0 ρ g ∧ ContS K B W H g D0 D
section
variable {K : PySem.W.Frag} {B : List Addr} {W : L2.WX} {H H1 : Hp} {g g1 : GH} {D0 : DEnds} {D : Ends} {σ : L2.St} {ρ : DEnv}
theorem ContS.after (f : Fr H g H1 g1) (c : ContS K B W H g D0 D) : ContS K B W H1 g1 D0 D :=
  ⟨fun ρ' g' σ' H' q r w f' => c.nx ρ' g' σ' H' q r w (f.trans f'), c.rt.after f, fun ρ' g' σ' H' q r w f' => c.ct ρ' g' σ' H' q r w (f.trans f'),
   fun x ρ' g' cls d σ' H' q xo r w f' => c.ex x ρ' g' cls d σ' H' q xo r w (f.trans f')⟩
theorem ContS.xc (c : ContS K B W H g D0 D) (rs : RepS K (hide H B) g σ ρ) (w : Vw K B H g) : XCont K B H g (fun x g' => D0.ex x ρ g') (WE W σ) :=
  fun x g' cls d H' q xo w' f => c.ex x ρ g' cls d σ H' q xo (rs.fv w f) w' f
end
theorem PS.of {X : Cx} {st : Stmt} {t t' : TS} (h : PS X st t') (i : ∀ D σ H, t D σ H → t' D σ H) : PS X st t := ⟨fun pins s σ H D I q => h.run pins s σ H D I (i D σ H q)⟩
theorem PSs.of {X : Cx} {st : List Stmt} {t t' : TS} (h : PSs X st t') (i : ∀ D σ H, t D σ H → t' D σ H) : PSs X st t := ⟨fun pins s σ H D I q => h.run pins s σ H D I (i D σ H q)⟩

def wNx : TSD := fun D ρ g => D.nx ρ g
def wSq (t u : TSD) : TSD := fun D ρ g => t { D with nx := fun ρ' g' => u D ρ' g' } ρ g
def wIf (tc : TTD) (t u : TSD) : TSD := fun D ρ g => tc ρ g (fun b g1 => if b = true then t D ρ g1 else u D ρ g1) (fun x g1 => D.ex x ρ g1)
def wDrop (te : TD) : TSD := fun D ρ g => te ρ g (fun _ g1 => D.nx ρ g1) (fun x g1 => D.ex x ρ g1)
def wRet (te : TD) : TSD := fun D ρ g => te ρ g (fun r g1 => D.rt r g1) (fun x g1 => D.ex x ρ g1)
def wRetN : TSD := fun D _ g => D.rt (.v .non) g
def wCt : TSD := fun D ρ g => D.ct ρ g
/-- target = value: a name, a tuple of names -/
def wAsg (tg : Tg) (te : TD) : TSD := fun D ρ g => te ρ g (fun r g1 => tgB tg r.fz ρ (fun ρ' => D.nx ρ' g1)) (fun x g1 => D.ex x ρ g1)
/-- a turn of a loop, its end the next turn's start -/
def forW (gd : GH → Prop) (tg : Tg) (tb : TSD) (De : DEnds) : List D → DEnv → GH → Prop
  | [], ρ, g => gd g ∧ De.nx ρ g
  | d :: ds, ρ, g => gd g ∧ tgB tg d ρ fun ρ1 => tb { De with nx := fun ρ' g' => forW gd tg tb De ds ρ' g', ct := fun ρ' g' => forW gd tg tb De ds ρ' g' } ρ1 g
def wFor (ti : TID) (tg : Tg) (tb : TSD) : TSD := fun D ρ g => ti ρ g (fun ds gd g1 => forW gd tg tb D ds ρ g1) (fun x g1 => D.ex x ρ g1)
/-- a while loop of at most so many turns -/
def whlW (tc : TTD) (tb : TSD) (D : DEnds) : Nat → DEnv → GH → Prop
  | 0, _, _ => False
  | n + 1, ρ, g => tc ρ g (fun b g1 => if b = true then tb { D with nx := fun ρ' g' => whlW tc tb D n ρ' g', ct := fun ρ' g' => whlW tc tb D n ρ' g' } ρ g1 else D.nx ρ g1) (fun x g1 => D.ex x ρ g1)
def wWhl (tc : TTD) (tb : TSD) : TSD := fun D ρ g => ∃ n, whlW tc tb D n ρ g
/-- a tracked list that will not change any more -/
def wFrz (i : Nat) (t : TSD) : TSD := fun D ρ g => match ρ[i]? with
  | some (some (.ref a)) => ∃ ds g', g a = some (.lst ds) ∧ (∀ b o, g' b = some o → g b = some o) ∧ g' a = none ∧ t D (ρ.set i (some (.lst ds))) g'
  | _ => False

section
variable {X : Cx} {st : Stmt} {rest : List Stmt} {t u tb : TSD} {e c : Expr} {te : TD} {tc : TTD} {ti : TID} {W : L2.WX} {tg : Tg} {pos : Pos}
theorem s_nil : PSs X [] (LS X.K W wNx) := PSs.of pss_nil fun D σ H ⟨B, ρ, g, D0, rs, w, t, k⟩ => k.nx ρ g σ H t rs w (Fr.refl _ _)
theorem s_cons (h1 : PS X st (LS X.K W t)) (h2 : PSs X rest (LS X.K W u)) : PSs X (st :: rest) (LS X.K W (wSq t u)) :=
  PSs.of (pss_cons h1 h2) fun D σ H ⟨B, ρ, g, D0, rs, w, q, k⟩ =>
    ⟨B, ρ, g, _, rs, w, q, ⟨fun ρ' g' σ' H' q' r' w' f' => ⟨B, ρ', g', D0, r', w', q', k.after f'⟩, k.rt, k.ct, k.ex⟩⟩
theorem s_if {a b : List Stmt} (hc : PT X c (LT X.K (WE W) tc)) (ha : PSs X a (LS X.K W t)) (hb : PSs X b (LS X.K W u)) : PS X (.If c a b pos) (LS X.K W (wIf tc t u)) :=
  PS.of (ps_if hc ha hb) fun D σ H ⟨B, ρ, g, D0, rs, w, q, k⟩ =>
    ⟨B, ρ, g, _, _, rs, w, q, fun b g1 H1 hb w1 f1 => by
      cases b with
      | true => exact ⟨B, ρ, g1, D0, rs.fv w f1, w1, hb, k.after f1⟩
      | false => exact ⟨B, ρ, g1, D0, rs.fv w f1, w1, hb, k.after f1⟩, k.xc rs w⟩
theorem s_expr (h : PS X st (tDrop (LE X.K (WE W) te))) : PS X st (LS X.K W (wDrop te)) :=
  PS.of h fun D σ H ⟨B, ρ, g, D0, rs, w, q, k⟩ =>
    ⟨B, ρ, g, _, _, rs, w, q, fun r g1 v H1 hq _ w1 f1 _ => k.nx ρ g1 σ H1 hq (rs.fv w f1) w1 f1, k.xc rs w⟩
theorem s_ret (h : PE X e (LE X.K (WE W) te)) : PS X (.Return (some e) pos) (LS X.K W (wRet te)) :=
  PS.of (ps_ret h) fun D σ H ⟨B, ρ, g, D0, rs, w, q, k⟩ => ⟨B, ρ, g, _, _, rs, w, q, k.rt, k.xc rs w⟩
theorem s_retN : PS X (.Return none pos) (LS X.K W wRetN) := PS.of ps_retN fun D σ H ⟨B, ρ, g, D0, rs, w, q, k⟩ => k.rt.here q .non w
theorem s_ct : PS X (.Continue pos) (LS X.K W wCt) := PS.of ps_continue fun D σ H ⟨B, ρ, g, D0, rs, w, q, k⟩ => k.ct ρ g σ H q rs w (Fr.refl _ _)
theorem s_asg {te' : TE} (hi : ∀ σ H Q, LE X.K (WE W) te σ H Q → te' σ H Q) (h : PS X st (tAsg te' (gTg X.K tg))) : PS X st (LS X.K W (wAsg tg te)) :=
  PS.of h fun D σ H ⟨B, ρ, g, D0, rs, w, q, k⟩ => hi _ _ _
    ⟨B, ρ, g, _, _, rs, w, q, fun r g1 v H1 hq rv w1 f1 _ => gTg_ok rv (rs.fv w f1) hq fun σ' ρ' q' r' _ => k.nx ρ' g1 σ' H1 q' r' w1 f1, k.xc rs w⟩
theorem s_for (h : PS X st (tFor (LI X.K (WE W) ti) (gTg X.K tg) (LS X.K W tb))) : PS X st (LS X.K W (wFor ti tg tb)) := by
  refine PS.of h fun D σ H ⟨B, ρ, g, D0, rs, w, q, k⟩ => ⟨B, ρ, g, _, _, rs, w, q, fun ds gd g1 J H1 hq io w1 f1 => ?_, k.xc rs w⟩
  refine ⟨fun i m σ' H' => m = ds.length - i ∧ i ≤ ds.length ∧ ∃ ρ' g', RepS X.K (hide H' B) g' σ' ρ' ∧ Vw X.K B H' g' ∧ Fr H1 g1 H' g' ∧ forW gd tg tb D0 (ds.drop i) ρ' g',
    ⟨ds.length, by simp, Nat.zero_le _, ρ, g1, rs.fv w f1, w1, Fr.refl _ _, hq⟩, ?_⟩
  rintro i m σ' H' ⟨rfl, hi, ρ', g', rs', w', f', hw⟩
  by_cases hl : i = ds.length
  · subst hl
    rw [List.drop_length] at hw
    exact .inl ⟨(io _ _ _ g' (fun _ m => m) (fun _ m n => absurd m n) w' f' hw.1).2 rfl, k.nx ρ' g' σ' H' hw.2 rs' w' (f1.trans f')⟩
  · have hi' : i < ds.length := by omega
    rw [List.drop_eq_getElem_cons hi'] at hw
    obtain ⟨hg, hw⟩ := hw
    obtain ⟨go, yl⟩ := (io B i _ g' (fun _ m => m) (fun _ m n => absurd m n) w' f' hg).1 _ (List.getElem?_eq_getElem hi')
    refine .inr ⟨go, fun σ2 H2 => ∃ ρ2 g2, RepS X.K (hide H2 B) g2 σ2 ρ2 ∧ Vw X.K B H2 g2 ∧ Fr H1 g1 H2 g2 ∧ forW gd tg tb D0 (ds.drop (i + 1)) ρ2 g2, fun σ2 H2 z => ⟨ds.length - (i + 1), by omega, rfl, hi', z⟩, fun x H3 hy => ?_⟩
    obtain ⟨rx, w3, f3⟩ := yl x H3 hy
    refine gTg_ok rx (rs'.fv w' f3) hw fun σ2 ρ2 q2 rs2 _ => ?_
    refine ⟨B, ρ2, g', _, rs2, w3, q2, ⟨fun ρ4 g4 σ4 H4 q4 r4 w4 f4 => ⟨ρ4, g4, r4, w4, f'.trans (f3.trans f4), q4⟩, k.rt.after (f1.trans (f'.trans f3)),
      fun ρ4 g4 σ4 H4 q4 r4 w4 f4 => ⟨ρ4, g4, r4, w4, f'.trans (f3.trans f4), q4⟩, (k.after (f1.trans (f'.trans f3))).ex⟩⟩
theorem s_whl (h : PS X st (tWhile (LT X.K (WE W) tc) (LS X.K W tb))) : PS X st (LS X.K W (wWhl tc tb)) := by
  refine PS.of h fun D σ H ⟨B, ρ, g, D0, rs, w, ⟨n, q⟩, k⟩ => ?_
  refine ⟨fun m σ' H' => ∃ ρ' g', RepS X.K (hide H' B) g' σ' ρ' ∧ Vw X.K B H' g' ∧ Fr H g H' g' ∧ whlW tc tb D0 m ρ' g', ⟨n, ρ, g, rs, w, Fr.refl _ _, q⟩, ?_⟩
  rintro m σ' H' ⟨ρ', g', rs', w', f', hw⟩
  cases m with
  | zero => exact hw.elim
  | succ m =>
    refine ⟨B, ρ', g', _, _, rs', w', hw, fun b g1 H1 hb w1 f1 => ?_, (k.after f').xc rs' w'⟩
    cases b with
    | false => exact k.nx ρ' g1 σ' H1 hb (rs'.fv w' f1) w1 (f'.trans f1)
    | true =>
      refine ⟨fun σ2 H2 => ∃ ρ2 g2, RepS X.K (hide H2 B) g2 σ2 ρ2 ∧ Vw X.K B H2 g2 ∧ Fr H g H2 g2 ∧ whlW tc tb D0 m ρ2 g2, fun σ2 H2 z => ⟨m, Nat.lt_succ_self _, z⟩, ?_⟩
      have f2 := f'.trans f1
      exact ⟨B, ρ', g1, _, rs'.fv w' f1, w1, hb, ⟨fun ρ4 g4 σ4 H4 q4 r4 w4 f4 => ⟨ρ4, g4, r4, w4, f2.trans f4, q4⟩, k.rt.after f2,
        fun ρ4 g4 σ4 H4 q4 r4 w4 f4 => ⟨ρ4, g4, r4, w4, f2.trans f4, q4⟩, (k.after f2).ex⟩⟩
/-- less is tracked -/
theorem Vw.less {K : PySem.W.Frag} {B : List Addr} {H : Hp} {g g' : GH} (s : ∀ b o, g' b = some o → g b = some o) (w : Vw K B H g) : Vw K B H g' :=
  ⟨w.dom, fun a o e => by
    obtain ⟨u, hu, r⟩ := w.rg a o (s a o e)
    exact ⟨u, hu, r.mono fun _ _ x => x.mono (fun _ _ h => h) (fun _ _ _ h => h) fun b vs h k => ⟨h, by
      cases q : g' b with
      | none => rfl
      | some o => rw [s b o q] at k; cases k⟩⟩⟩
theorem none_less {g g' : GH} (s : ∀ b o, g' b = some o → g b = some o) {b : Addr} (k : g b = none) : g' b = none := by
  cases q : g' b with
  | none => rfl
  | some o => rw [s b o q] at k; cases k
theorem Fr.less {H : Hp} {g g' : GH} (s : ∀ b o, g' b = some o → g b = some o) : Fr H g H g' := ⟨fun b o h k => ⟨h, none_less s k⟩, fun _ h => h⟩
theorem s_frz {i : Nat} (h : PSs X rest (LS X.K W t)) : PSs X rest (LS X.K W (wFrz i t)) :=
  PSs.of h fun D σ H ⟨B, ρ, g, D0, rs, w, q, k⟩ => by
    unfold wFrz at q
    split at q
    · rename_i a ha
      obtain ⟨ds, g', hg, s, hn, q⟩ := q
      obtain ⟨v, hv, r⟩ := rs.at_ i _ ha
      cases r
      obtain ⟨u, hu, r⟩ := w.rg a _ hg
      cases r with
      | @lst vs _ r =>
        have m : ∀ v d, Rep X.K (hide H B) g v d → Rep X.K (hide H B) g' v d := fun v d x => x.mono (fun _ _ h => h) (fun _ _ _ h => h) fun b vs h k => ⟨h, none_less s k⟩
        refine ⟨B, ρ.set i (some (.lst ds)), g', D0, ⟨by simp [rs.len], fun j d hj => ?_⟩, w.less s, q, k.after (Fr.less s)⟩
        by_cases e : i = j
        · subst e
          have hi : i < ρ.length := (List.getElem?_eq_some_iff.mp ha).1
          rw [List.getElem?_set_self hi] at hj
          cases hj
          exact ⟨_, hv, .lst hu hn (r.monoR m)⟩
        · rw [List.getElem?_set_ne e] at hj
          obtain ⟨v, h1, h2⟩ := rs.at_ j d hj
          exact ⟨v, h1, m _ _ h2⟩
    · exact q.elim
end
end G3
/-! G3: enumerate of a tuple, of a list; zip -/
namespace PySem
open PySem.Spec PyProof
/-- enumerate(v), v anything that begins -/
theorem g3_enum_new {v : Value} {o : Obj} {H : Heap → Prop} (B : Begins v o H) :
    Meets (Builtin.«enumerate.__new__» ⟨[.type "enumerate", v], []⟩) (fun _ R s => H s.heap ∧
      R (.ok (.ret (.ref (s.heap.push o).objs.size))) { s with heap := (s.heap.push o).push { cls := .type "enumerate", data := .fields #[.none, .bool false, .ref s.heap.objs.size, rawInt 0, .none, .none] } }) :=
  .of_wp fun prog w A R s h => by
    obtain ⟨hp, g, d, tk, os⟩ := s; obtain ⟨h1, h⟩ := h
    have hsub := sub_enumerate
    have q1 : ∀ {A' : Around} {E : Value → Shared → Prop} {Q : Value → Shared → Prop}, Q (.ref hp.objs.size) ⟨hp.push o, g, d, tk, os⟩ → wpAny (model prog w) A' (pyIter v) Q E ⟨hp, g, d, tk, os⟩ :=
      fun q => B.iter prog w _ _ ⟨hp, g, d, tk, os⟩ _ h1 q
    wp_walk using q1
    first
    | exact ⟨_, rfl, h⟩
    | (refine wpAny_stack_any fun st => wpAny_pure ?_
       split
       · rename_i c _ _ _ _ _
         cases (c == Value.type "enumerate")
         · wp_walk using q1
           exact ⟨_, rfl, h⟩
         · wp_walk using q1
           exact ⟨_, rfl, h⟩
       · wp_walk using q1
         exact ⟨_, rfl, h⟩)
section
variable {prog : Program} {w : World} {A : Around} {E : Value → Shared → Prop} {s : Shared}
theorem g3_enum_call {v : Value} {o : Obj} {H : Heap → Prop} {Q : Value → Shared → Prop} (B : Begins v o H) (h1 : H s.heap)
    (h : ∀ h', IsEnum h' (s.heap.objs.size + 1) s.heap.objs.size 0 .none → h'.get? s.heap.objs.size = some o → (∀ b o, s.heap.get? b = some o → h'.get? b = some o) → Q (.ref (s.heap.objs.size + 1)) { s with heap := h' }) :
    wpAny (model prog w) A (call (.type "enumerate") [v]) Q E s := by
  refine callType_new F.called_enumerate (by decide) (F.typeCall_enumerate_1 _) (F.newCall_enumerate_1 _) (fun obj => F.args_object_init_2 obj _) F.entry_enumerate_new (g3_enum_new B) ⟨h1, ?_⟩
  have hz : (s.heap.push o).objs.size = s.heap.objs.size + 1 := Heap.size_push ..
  have q := Heap.get?_push_size (s.heap.push o) (o := { cls := .type "enumerate", data := .fields #[.none, .bool false, .ref s.heap.objs.size, rawInt 0, .none, .none] }) rfl
  rw [hz] at q
  rw [hz]
  exact ⟨⟨_, q, rfl⟩, h _ q (Heap.get?_push_of_some _ (Heap.get?_push_size _ B.free)) fun b o x => Heap.get?_push_of_some _ (Heap.get?_push_of_some _ x)⟩
end
end PySem
namespace G3
open PySem L2
/-- a tuple's items, each in a new pair with its number -/
def IteT (K : PySem.W.Frag) (a : Addr) : It where
  go i H := ∃ (xs : List V) (x : V), SqT K H a xs ∧ xs[i]? = some x
  yld i H v H' := ∃ T x, v = .ref T ∧ H T = none ∧ H' = upd H T (.tup [.int (i : Nat), x]) ∧ ∀ xs, SqT K H a xs → xs[i]? = some x
  stop i H := ∃ xs : List V, SqT K H a xs ∧ xs.length = i
theorem turn_enumT {P : Program} {w : World} {K : PySem.W.Frag} {elts : List Expr} {kk : Nat} {tpos : Pos} (a e it : Addr) (hae : a ≠ e) (hai : a ≠ it) :
    Turn P w K (.Tuple elts kk tpos) (IteT K a) [e, it] e (fun i h => (∃ old, IsEnum h e it ((i : Nat) : Int) old) ∧ h.IsTupleIter it a i ∧ e ≠ it) where
  mem := by simp
  obj := by
    rintro i h ⟨⟨old, he⟩, ⟨o, ho, _, hd⟩, _⟩ b hb
    rcases (show b = e ∨ b = it by simpa using hb) with rfl | rfl
    · exact ⟨_, he, fun v q => nomatch q⟩
    · exact ⟨o, ho, fun v q => by rw [hd] at q; cases q⟩
  keep := by
    rintro i h h' ⟨⟨old, he⟩, hi, hne⟩ k
    exact ⟨⟨old, k e (by simp) _ he⟩, hi.at fun o q => k it (by simp) o q, hne⟩
  item := by
    intro X hP hw hK hc i pins s σ H E I hf st hg
    subst hP hw hK
    obtain ⟨⟨old, he⟩, hit, hne⟩ := st
    obtain ⟨xs, x, hq, hx⟩ := hg
    obtain ⟨its, rv, p, hz⟩ := I.tuple hq
    obtain ⟨u, hu, ru⟩ := rv.get hx
    have hel : e < s.heap.objs.size := Heap.lt_size he
    have hil : it < s.heap.objs.size := by obtain ⟨_, q, _⟩ := hit; exact Heap.lt_size q
    have hlen : i < its.toArray.size := by
      rw [List.size_toArray]; exact (List.getElem?_eq_some_iff.mp hu).1
    have pT : s.heap.IsTuple a its.toArray := p
    refine wpAny_pyNext_enum_itemC (Draws.tuple (A := X.A.in1) (I.ok.hd hc) it a hai its.toArray) he ⟨hit, pT⟩ hlen hne (by simp [hne, Ne.symm hae]) ?_
    intro y h' tk hy ho st' hT hsz hk
    obtain rfl : y = u := by
      have : its[i]? = some y := by simpa using hy
      rw [hu] at this; cases this; rfl
    refine ⟨_, rfl, wpAny_letOwnedTupleGo_enum (s := { s with heap := h', toks := tk + 1 }) ho fun h'' he' sb => ?_⟩
    have hT2 := (sb.2 _ (Nat.ne_of_gt hel)).trans hT
    have new : ObjOk X.prog X.w (upd H s.heap.objs.size (.tup [.int (i : Nat), x])) h'' s.heap.objs.size (.tup [.int (i : Nat), x]) :=
      ⟨by show 2 ≤ sizeLine; decide, [.int i tk, y], .cons ⟨_, rfl⟩ (.cons ru .nil), ⟨_, hT2, rfl, _, rfl⟩⟩
    have I1 : Inv X pins σ (upd H s.heap.objs.size (.tup [.int (i : Nat), x])) { s with heap := h'', toks := tk + 1 } := by
      refine I.turnedNew (ch := [e, it]) (fun b ob hb q => ?_) hf (Nat.le_refl _) new
      have h1 : b ≠ e := fun z => hb (by simp [z])
      have h2 : b ≠ it := fun z => hb (by simp [z])
      exact (sb.2 b h1).trans (hk b ob h1 h2 q)
    refine ⟨.ref s.heap.objs.size, _, I1, rfl, ⟨_, x, rfl, I.hok.fresh (Nat.le_refl _), rfl, fun ys hy => by rw [I.tuple_inj hy hq]; exact hx⟩, ⟨⟨y, ?_⟩, st'.1.at fun o q => (sb.2 it (Ne.symm hne)).trans q, hne⟩, fun b hb => ?_⟩
    · have e1 : ((i + 1 : Nat) : Int) = (i : Int) + 1 := by omega
      rw [e1]; exact he'
    · have hb' : b < s.heap.objs.size := by
        rcases (show b = e ∨ b = it by simpa using hb) with rfl | rfl
        · exact hel
        · exact hil
      rw [upd_ne (Nat.ne_of_lt hb')]
      exact (hf b hb).1
  done := by
    intro X hP hw hK hc i pins s σ H E I hf st hg
    subst hP hw hK
    obtain ⟨⟨old, he⟩, hit, hne⟩ := st
    obtain ⟨xs, hq, hx⟩ := hg
    obtain ⟨its, rv, p, hz⟩ := I.tuple hq
    have pT : s.heap.IsTuple a its.toArray := p
    have hlen : i = its.toArray.size := by rw [List.size_toArray, ← rv.length]; exact hx.symm
    subst hlen
    obtain ⟨f0, f1, f2, f3, f4, f5⟩ := hf it (by simp)
    exact wpAny_pyNext_enum_endD (Draws.tuple (A := X.A.in1) (I.ok.hd hc) it a hai its.toArray) he ⟨hit, pT⟩ fun h' eb => ⟨rfl, I.turned (t' := s.toks) (fun b o hb q => eb b o hb q) f0 f1 f3 f4 f5⟩
  self := by
    rintro A i s Q E ⟨⟨_, he⟩, _⟩ h
    exact wpAny_pyIter_enum he h
/-- what enumerate walks: a list or a tuple -/
def iEnA (K : PySem.W.Frag) (ta : TA) : TI := fun σ H R => ta σ H fun vs H1 => ∃ a xs, vs = [.ref a] ∧ ((SqL K H1 a xs ∧ R (Ite K a) H1) ∨ (SqT K H1 a xs ∧ R (IteT K a) H1))
theorem pi_enumA {X : Cx} {e : Expr} {ta : TA} {p pos tpos : Pos} {elts : List Expr} {kk : Nat} (hg : Gl X "enumerate") (hm : X.mg "enumerate" = none) (ha : PA X [e] ta) (hs : starEach [e] X.env = [(false, eval e X.env)]) :
    PI X (.Tuple elts kk tpos) (.Call (.Name "enumerate" p) [e] [] pos) (iEnA X.K ta) := by
  constructor
  intro pins s σ H R I h
  refine PyProof.Rows.Call_ (ld_blt I hg hm PyProof.Rows.boot_enumerate (PyProof.Rows.callWith_type1 (thn (ha.run pos pins s σ H _ I h) ?_) hs rfl))
  rintro us s1 ⟨vs, H1, I1, r1, a, xs, rfl, q⟩
  match us, r1 with
  | [_], .cons rfl .nil =>
    have two : ∀ (N b : Nat), b ∈ [N + 1, N] → N ≤ b := by
      intro N b hb
      rcases (show b = N + 1 ∨ b = N by simpa using hb) with z | z <;> omega
    rcases q with ⟨hq, q⟩ | ⟨hq, q⟩
    · obtain ⟨its, rv, p', hz⟩ := I1.list hq
      refine call_enumerate_list p'.isList fun h' he hit hsz hk => wpAny_pyIter_enum he ?_
      refine ⟨s1.heap.objs.size + 1, [s1.heap.objs.size + 1, s1.heap.objs.size], _, _, H1, rfl, I1.kept (t' := s1.toks) hk, turn_enum a (s1.heap.objs.size + 1) s1.heap.objs.size, ⟨⟨.none, he⟩, hit, Nat.succ_ne_self _⟩, fun b hb => ?_, q⟩
      exact I1.fpOk (two _ b hb) (I1.hok.fresh (two _ b hb))
    · obtain ⟨its, rv, p', hz⟩ := I1.tuple hq
      have pT : s1.heap.IsTuple a its.toArray := p'
      have hlt : a < s1.heap.objs.size := by obtain ⟨_, q, _⟩ := pT; exact Heap.lt_size q
      refine g3_enum_call (begins_tuple a its.toArray) pT fun h' he ho hk => wpAny_pyIter_enum he ?_
      refine ⟨s1.heap.objs.size + 1, [s1.heap.objs.size + 1, s1.heap.objs.size], _, _, H1, rfl, I1.kept (t' := s1.toks) hk, turn_enumT a (s1.heap.objs.size + 1) s1.heap.objs.size (Nat.ne_of_lt (Nat.lt_succ_of_lt hlt)) (Nat.ne_of_lt hlt), ⟨⟨.none, he⟩, ⟨_, ho, rfl, rfl⟩, Nat.succ_ne_self _⟩, fun b hb => ?_, q⟩
      exact I1.fpOk (two _ b hb) (I1.hok.fresh (two _ b hb))
/-- numbered -/
def enumD (i : Nat) : List D → List D
  | [] => []
  | d :: ds => .tup [.int i, d] :: enumD (i + 1) ds
theorem enumD_len : ∀ {ds : List D} {i : Nat}, (enumD i ds).length = ds.length
  | [], _ => rfl
  | _ :: ds, i => by simp [enumD, enumD_len]
theorem enumD_get : ∀ {ds : List D} {i j : Nat} {d : D}, (enumD i ds)[j]? = some d → ∃ x, ds[j]? = some x ∧ d = .tup [.int ((i + j : Nat) : Int), x]
  | [], _, _, _, h => by simp [enumD] at h
  | x :: ds, i, 0, d, h => by simp [enumD] at h; exact ⟨x, rfl, h.symm⟩
  | x :: ds, i, j + 1, d, h => by
    obtain ⟨y, h1, h2⟩ := enumD_get (ds := ds) (i := i + 1) (j := j) (d := d) (by simpa [enumD] using h)
    exact ⟨y, by simpa using h1, by rw [h2, show i + 1 + j = i + (j + 1) by omega]⟩
def wEnumL (tr : TAD) : TID := fun ρ g Q W => tr ρ g (fun ds g1 => match ds with | [d] => ∃ xs, lstOf g1 (.v d) xs ∧ Q (enumD 0 xs) (gdOf (.v d) xs) g1 | _ => False) W
def wEnumT (tr : TAD) : TID := fun ρ g Q W => tr ρ g (fun ds g1 => match ds with | [d] => ∃ xs, tupOf (.v d) xs ∧ Q (enumD 0 xs) (fun _ => True) g1 | _ => False) W
section
variable {X : Cx} {e tg : Expr} {tr : TAD} {E : L2.St → XK} {K : PySem.W.Frag}
/-- a new pair at each turn -/
theorem pair_ok {B : List Addr} {H : Hp} {g : GH} {i : Nat} {v : V} {d : D} {T : Addr} (w : Vw K B H g) (r : Rep K (hide H B) g v d) (hT : H T = none) :
    Rep K (hide (upd H T (.tup [.int (i : Nat), v])) B) g (.ref T) (.tup [.int (i : Nat), d]) ∧ Vw K B (upd H T (.tup [.int (i : Nat), v])) g ∧ Fr H g (upd H T (.tup [.int (i : Nat), v])) g := by
  obtain ⟨f, w', _⟩ := Fr.laidV (u := .tup [.int (i : Nat), v]) hT w
  exact ⟨.tup (by rw [hide_out (w.new hT)]; exact upd_same) (.cons (.int _) (.cons (r.fv w f) .nil)), w', f⟩
theorem itEL {B : List Addr} {H0 : Hp} {g0 : GH} {a : Addr} {ds : List D} {gd : GH → Prop} (io : ItOk K B H0 g0 (Itl K a) ds gd) : ItOk K B H0 g0 (Ite K a) (enumD 0 ds) gd := by
  intro B' i H g sB nB w f hg
  obtain ⟨go, st⟩ := io B' i H g sB nB w f hg
  refine ⟨fun d hd => ?_, fun hi => st (by rw [hi, enumD_len])⟩
  obtain ⟨x, hx, rfl⟩ := enumD_get hd
  obtain ⟨⟨xs, v, hs, hv⟩, yl⟩ := go x hx
  refine ⟨⟨xs, v, hs, hv⟩, ?_⟩
  rintro y H' ⟨T, z, rfl, hT, rfl, hz⟩
  obtain ⟨rx, _, _⟩ := yl z H ⟨rfl, hz⟩
  have q := pair_ok (i := i) w rx hT
  rw [Nat.zero_add]; exact q
theorem itET {B : List Addr} {H0 : Hp} {g0 : GH} {a : Addr} {vs : List V} {ds : List D} (h : SqT K (hide H0 B) a vs) (G : Vw K B H0 g0) (r : Reps K (hide H0 B) g0 vs ds) : ItOk K B H0 g0 (IteT K a) (enumD 0 ds) fun _ => True := by
  intro B' i H g sB nB w f _
  have h' : SqT K H a vs := sqT_un ((f.hd B).sqT G.rg h)
  have r' := r.more G f nB
  refine ⟨fun d hd => ?_, fun hi => ⟨vs, h', by rw [r'.length, hi, enumD_len]⟩⟩
  obtain ⟨x, hx, rfl⟩ := enumD_get hd
  obtain ⟨v, hv, q⟩ := r'.get hx
  refine ⟨⟨vs, v, h', hv⟩, ?_⟩
  rintro y H' ⟨T, z, rfl, hT, rfl, hz⟩
  have e := hz vs h'
  rw [hv] at e; cases e
  have q := pair_ok (i := i) w q hT
  rw [Nat.zero_add]; exact q
theorem q_enumL (h : PI X tg e (iEnA X.K (LA X.K E tr))) : PI X tg e (LI X.K E (wEnumL tr)) :=
  PI.of h fun σ H R ⟨B, ρ, g, Q0, W0, rs, rg, t, c, xc⟩ => ⟨B, ρ, g, _, W0, rs, rg, t, fun ds g1 vs H1 hq rd w1 f1 => by
    match ds, rd, hq with
    | [d], .cons r .nil, ⟨xs, hl, hq⟩ =>
      obtain ⟨a, ws, rfl, ha, rv, io⟩ := lstOf.cases (r := .v d) w1 r hl
      exact ⟨a, ws, rfl, .inl ⟨.inl (.inl ha), c _ _ g1 _ H1 hq (itEL io) w1 f1⟩⟩, xc⟩
theorem q_enumT (h : PI X tg e (iEnA X.K (LA X.K E tr))) : PI X tg e (LI X.K E (wEnumT tr)) :=
  PI.of h fun σ H R ⟨B, ρ, g, Q0, W0, rs, rg, t, c, xc⟩ => ⟨B, ρ, g, _, W0, rs, rg, t, fun ds g1 vs H1 hq rd w1 f1 => by
    match ds, rd, hq with
    | [d], .cons r .nil, ⟨xs, hl, hq⟩ =>
      obtain ⟨a, ws, rfl, ha, rv⟩ := tupOf.rep (r := .v d) r hl
      exact ⟨a, ws, rfl, .inr ⟨sqT_un ha, c _ _ g1 _ H1 hq (itET ha w1 rv) w1 f1⟩⟩, xc⟩
end
end G3
/-! G3t: sorted(x), x a list or a tuple of whole numbers -/
namespace G3
open PySem PySem.Spec PyProof.Rows L2
section
variable {prog : Program} {w : World} {A : Around} {E : Value → Shared → Prop} {s : Shared}
theorem sorted_tup {a : Addr} {us : List Value} {ns : List Int} {Q : Value → Shared → Prop} (at_a : IsTup s.heap a us.toArray) (nums : IntsAre us ns) (small : us.length ≤ sizeLine)
    (post : ∀ (s' : Shared) (p : Addr) (out : List Value) (ns' : List Int) (ep : Nat), (∀ b o, s.heap.get? b = some o → s'.heap.get? b = some o) → s'.gens = s.gens → s'.os = s.os → (∀ o, s.heap.get? p ≠ some o) →
      s'.heap.get? p = some (seqObj "list" out.toArray ep) → IntsAre out ns' → ns'.Perm ns → ns'.Pairwise (· ≤ ·) → Q (.ref p) s') : wpAny (model prog w) A (call (.builtin "sorted") [.ref a]) Q E s := by
  obtain ⟨o, at_o, cls, n, dat⟩ := (show s.heap.IsTuple a us.toArray from at_a)
  refine Calls.call_function_entry kind_sorted plain_sorted entry_sorted (args_sorted1 _) ?_
  unfold Builtin.«sorted»
  refine wpAny_bind (m := checkCount "sorted" 1 1 _) (wpAny_pure (wpAny_bind (wpAny_collect_seq a (T := "tuple") (.inr rfl) at_o cls dat (fun h1 k1 => ?_) (by rw [List.size_toArray]; exact small))))
  refine wpAny_bind (wpAny_newList ?_ small)
  have fresh : (h1.push (seqObj "list" us.toArray 0)).get? h1.objs.size = some (seqObj "list" us.toArray 0) := Heap.get?_push_size _ rfl
  have none_there : ∀ o, s.heap.get? h1.objs.size ≠ some o := fun o e => absurd (Heap.lt_size (k1 _ o e)) (Nat.lt_irrefl _)
  refine wpAny_bind (wpAny_holding (wpAny_call_entry slot_list_sort ⟨_, fresh, rfl⟩ entry_list_sort (SrtO.list_sort_ord SrtO.swo_int fresh small (fun h2 => SrtO.ints_sortable nums h2) fun out q1 q2 => ⟨_, rfl, ?_⟩) (args_list_sort _)))
  obtain ⟨c1, c2, c3⟩ := SrtO.ints_out nums q1 q2
  obtain ⟨ep, at_p⟩ := sortedHeap_at (vs := us) (out := out.toArray) fresh
  refine wpAny_pure ⟨_, rfl, post _ h1.objs.size out _ ep (fun b u e => ?_) rfl rfl none_there at_p c1 c2 c3⟩
  have e1 := k1 b u e
  show (sortedHeap (h1.push (seqObj "list" us.toArray 0)) h1.objs.size us out.toArray).get? b = some u
  rw [sortedHeap_old (Nat.ne_of_lt (Heap.lt_size e1)) (by rw [size_push']; exact Nat.lt_succ_of_lt (Heap.lt_size e1))]
  exact Heap.get?_push_of_some _ e1
end
section
variable {X : Cx} {pins : List (Addr × Obj)} {σ : L2.St} {H : Hp} {s : Shared}
/-- a thing that no one knows of yet is tracked -/
theorem inv_track (I : Inv X pins σ H s) {a : Addr} {u : HO} (na : H a = none) (new : ∀ o, X.s_0.heap.get? a = some o → a ∈ X.ex) (nL : a ≠ X.env.locals) (nc : ∀ x c, X.env.cells.lookup x = some c → c ≠ a)
    (np : ∀ p ∈ X.pn ++ pins, p.1 ≠ a) (ob : ObjOk X.prog X.w (upd H a u) s.heap a u) : Inv X pins σ (upd H a u) s := by
  have ne : ∀ {b : Addr} {o : HO}, H b = some o → b ≠ a := fun {b o} e z => by rw [z, na] at e; cases e
  refine ⟨I.ok, I.os, I.bare, ⟨I.base.keep, I.base.slot, fun b o e n hx => ?_, I.base.there, fun b xs e => ?_, fun b o u e => ?_, fun b ps e => ?_⟩, I.loc, I.cell, ?_, fun x c e => ?_, fun p hp => ?_, fun b o e => ?_, I.len⟩
  · rw [upd_ne fun z => by subst z; exact hx (new o e)]; exact I.base.free b o e n hx
  · have q := I.base.tups b xs e; rw [upd_ne (ne q)]; exact q
  · have q := I.base.frzs b o u e; rw [upd_ne (ne q)]; exact q
  · obtain ⟨m, q⟩ := I.base.tbls b ps e; exact ⟨m, by rw [upd_ne (ne q)]; exact q⟩
  · rw [upd_ne (Ne.symm nL)]; exact I.free
  · rw [upd_ne (nc x c e)]; exact I.freeC x c e
  · obtain ⟨h1, h2, h3⟩ := I.pin p hp
    exact ⟨h1, by rw [upd_ne (np p hp)]; exact h2, h3⟩
  · by_cases z : b = a
    · subst z; rw [upd_same] at e; cases e; exact ob
    · rw [upd_ne z] at e
      exact (I.hok b o e).stay (fun _ _ _ q => q) (fun c q => by rw [upd_ne (ne q)]; exact q) fun c xs q => by rw [upd_ne (ne q)]; exact q
/-- a new object, where none stood -/
theorem inv_new {s' : Shared} (I : Inv X pins σ H s) {a : Addr} {u : HO} (k : ∀ b o, s.heap.get? b = some o → s'.heap.get? b = some o) (gs : s'.gens = s.gens) (os : s'.os = s.os) (no : ∀ o, s.heap.get? a ≠ some o) (ob : ObjOk X.prog X.w (upd H a u) s'.heap a u) : H a = none ∧ Inv X pins σ (upd H a u) s' := by
  have na : H a = none := by
    cases e : H a with
    | none => rfl
    | some u => obtain ⟨o, z⟩ := objOk_get (I.hok a u e); exact absurd z (no o)
  have J : Inv X pins σ H s' := by
    obtain ⟨h1, g1, d1, t1, o1⟩ := s'
    obtain rfl : g1 = s.gens := gs
    obtain rfl : o1 = s.os := os
    exact Inv.call (ch := []) I ⟨fun b o e n _ _ => k b o e, fun b o e n _ _ => ⟨o.slots, k b o e⟩, fun b o e n _ => n, fun b o e _ => ⟨o, k b o e⟩, fun b xs e => e, fun b o u e => e, fun b ps e => ⟨#[], by rw [e]; simp⟩⟩ (I.hok.kept k) I.bare (fun _ z => nomatch z)
  refine ⟨na, inv_track J na (fun o e => ?_) ?_ (fun x c e z => ?_) (fun p hp z => ?_) ob⟩
  · by_cases m : a ∈ X.ex
    · exact m
    · obtain ⟨o', e'⟩ := I.base.there a o e m
      exact absurd e' (no o')
  · intro z
    obtain ⟨m, ⟨o, _, _, e, _⟩, _⟩ := I.loc
    exact no o (z ▸ e)
  · obtain ⟨v, q⟩ := I.cell x c e
    obtain ⟨o, q⟩ : ∃ o, s.heap.get? c = some o := by
      obtain ⟨_, e', _⟩ := q
      exact ⟨_, e'⟩
    exact no o (z ▸ q)
  · exact no _ (z ▸ (I.pin p hp).1)
/-- sorted(x), a list or a tuple -/
def rSortedA (K : PySem.W.Frag) : List V → Hp → VK → Prop := fun vs H Q => ∃ (a : Addr) (ns : List Int), vs = [V.ref a] ∧ (SqL K H a (ns.map V.int) ∨ SqT K H a (ns.map V.int)) ∧
  ∀ (ns' : List Int) (p : Addr), ns'.Perm ns → ns'.Pairwise (· ≤ ·) → H p = none → Q (.ref p) (upd H p (.lst (ns'.map V.int)))
end
theorem cr_sortedA {X : Cx} : CallR X (.builtin "sorted") (rSortedA X.K) := by
  intro pins s σ H vs us Q I r h
  obtain ⟨a, ns, rfl, hs | hs, q⟩ := h
  · exact cr_sortedI pins s σ H _ us Q I r ⟨a, ns, rfl, hs, q⟩
  · obtain ⟨its, rv, hl, hz⟩ := I.tuple hs
    rw [Vals.ref1 r]
    refine sorted_tup hl rv.ints (by rw [← rv.length]; exact hz) fun s' p out ns' ep k gs os no at_p nums pm up => ?_
    have len : (ns'.map V.int).length ≤ sizeLine := by rw [List.length_map, pm.length_eq]; rw [List.length_map] at hz; exact hz
    obtain ⟨na, J⟩ := inv_new (u := .lst (ns'.map V.int)) I k gs os no ⟨len, out, ep, vals_of_ints nums, at_p⟩
    exact ⟨.ref p, _, J, rfl, q _ p pm up na⟩
end G3
/-! G3u: sorted(x), x a tuple of whole numbers and a truth behind -/
namespace G3
open PySem PySem.Spec PyProof.Rows L2
section
variable {prog : Program} {w : World} {A : Around} {E : Value → Shared → Prop} {s : Shared} {Q : Value → Shared → Prop}
theorem gives_lt_bi (p : Bool) (n : Int) (u : Tok) : Gives (Builtin.«int.__lt__» ⟨[.bool p, .int n u], []⟩) (.val (Value.bool (decide ((if p = true then (1 : Int) else 0) < n)))) :=
  .of_wp fun M A E s Q h => by obtain ⟨hp, g, d, tk, os⟩ := s; wp_walk; exact ⟨_, rfl, h⟩
theorem gives_gt_bi (p : Bool) (n : Int) (u : Tok) : Gives (Builtin.«int.__gt__» ⟨[.bool p, .int n u], []⟩) (.val (Value.bool (decide ((if p = true then (1 : Int) else 0) > n)))) :=
  .of_wp fun M A E s Q h => by obtain ⟨hp, g, d, tk, os⟩ := s; wp_walk; exact ⟨_, rfl, h⟩
theorem sub_ib : isSubtype (.type "int") (.type "bool") = pure false := by with_unfolding_all rfl
theorem sub_bi : isSubtype (.type "bool") (.type "int") = pure true := by with_unfolding_all rfl
theorem lt_bi {p : Bool} {n : Int} {u : Tok} (h : Q (.bool (decide (b2i p < n))) s) : wpAny (model prog w) A (compareOp .Lt (.bool p) (.int n u)) Q E s := by
  show wpAny _ A (richCompare .Lt _ _) Q E s
  exact wpAny_richCompare_left (typeIs_bool' s p) (typeIs_int s n u) (by decide) sub_ib F.slot_bool_lt
    (call_gives F.slot_bool_lt (typeIs_bool' s p) F.entry_int_lt (F.args_int_lt_2 _ _) (gives_lt_bi p n u) ⟨nofun, h⟩)
theorem lt_ib {p : Bool} {n : Int} {u : Tok} (h : Q (.bool (decide (n < b2i p))) s) : wpAny (model prog w) A (compareOp .Lt (.int n u) (.bool p)) Q E s := by
  show wpAny _ A (richCompare .Lt _ _) Q E s
  have ha : s.TypeIs (.int n u) "int" := typeIs_int s n u
  have hb : s.TypeIs (.bool p) "bool" := typeIs_bool' s p
  have hslot := F.slot_bool_gt
  have hv : [Value.int n u, Value.bool p].any Value.onHeap = false := rfl
  simp only [richCompare, ha.oneThing_none]
  try with_reducible refine wpAny_holding ?_
  simp only [cRoomFor, hv, Bool.false_eq_true, if_false, pure_bind]
  refine wpAny_bind (wpAny_typeOf ha (wpAny_bind (wpAny_typeOf hb ?_)))
  simp only [show (Value.type "int" != Value.type "bool") = true by decide, if_true]
  refine wpAny_bind (wpAny_of_eq sub_bi ?_)
  simp only [if_true]
  refine wpAny_bind (wpAny_tryCompare_slot hb hslot (call_gives F.slot_bool_gt hb F.entry_int_gt (F.args_int_gt_2 _ _) (gives_gt_bi p n u) ⟨nofun, ?_⟩))
  have h' : Q (.bool (decide ((if p = true then (1 : Int) else 0) > n))) s := h
  show wpAny (model prog w) A (Sem.rule _ Sem.pure >>= fun _ => pure _) Q E s
  exact wpAny_bind (wpAny_rule (wpAny_pure h'))
theorem lt_ii {m n : Int} {t u : Tok} (h : Q (.bool (decide (m < n))) s) : wpAny (model prog w) A (compareOp .Lt (.int m t) (.int n u)) Q E s :=
  compareOp_gives (op := .Lt) (typeIs_int s m t) (typeIs_int s n u) F.slot_int_lt F.entry_int_lt (F.args_int_lt_2 _ _) (AutoIntG1.int___lt___int_int_0 m t n u) (by intro hq; cases hq) h
end
/-- a whole number, or a truth, as a number -/
def mv : Value → Int
  | .int i _ => i
  | .bool b => b2i b
  | _ => 0
def IsMix (v : Value) : Prop := (∃ i t, v = .int i t) ∨ ∃ b, v = .bool b
def ltM (v u : Value) : Bool := decide (mv v < mv u)
theorem swo_mix : SrtO.Swo ltM := by
  refine ⟨fun x y h => ?_, fun x y z h1 h2 => ?_⟩
  · have a := of_decide_eq_true (p := mv x < mv y) h
    exact decide_eq_false (p := mv y < mv x) (by omega)
  · have a := of_decide_eq_false (p := mv y < mv x) h1
    have b := of_decide_eq_false (p := mv z < mv y) h2
    exact decide_eq_false (p := mv z < mv x) (by omega)
section
variable {prog : Program} {w : World} {A : Around} {E : Value → Shared → Prop} {s : Shared}
theorem mix_cmp {vs : List Value} (hI : ∀ v ∈ vs, IsMix v) : SrtO.Cmp prog w A s general' (fun p => p.1 ∈ vs) (SrtO.lt2 ltM) := by
  intro p q hm hm'
  show wpAny (model prog w) A (keyLt' general' p.1 q.1) (fun r s' => s' = s ∧ r = ltM p.1 q.1) (fun _ _ => False) s
  have e : keyLt' general' p.1 q.1 = oneLt' false p.1 q.1 := rfl
  rw [e]
  refine PySem.W.kat_one p.1 q.1 ?_
  rcases hI _ hm with ⟨i, t, e1⟩ | ⟨b, e1⟩ <;> rcases hI _ hm' with ⟨j, u, e2⟩ | ⟨c, e2⟩ <;> rw [e1, e2]
  · exact lt_ii ⟨rfl, rfl⟩
  · exact lt_ib ⟨rfl, rfl⟩
  · exact lt_bi ⟨rfl, rfl⟩
  · exact lt_bool ⟨rfl, rfl⟩
def tyM : Value → Value
  | .bool _ => .type "bool"
  | _ => .type "int"
theorem first_mix : ∀ {vs : List Value}, (∀ v ∈ vs, IsMix v) → vs.mapM firstOfTuple' = pure (vs.map fun _ => none)
  | [], _ => by simp
  | v :: vs, h => by
    have e : firstOfTuple' v = pure none := by
      rcases h v List.mem_cons_self with ⟨i, t, rfl⟩ | ⟨b, rfl⟩
      · exact firstOfTuple'_int i t
      · rfl
    rw [List.mapM_cons, e, first_mix fun u hu => h u (List.mem_cons_of_mem _ hu)]; simp
theorem types_mix : ∀ {vs : List Value}, (∀ v ∈ vs, IsMix v) → vs.mapM typeOf = pure (vs.map tyM)
  | [], _ => by simp
  | v :: vs, h => by
    have e : typeOf v = pure (tyM v) := by
      rcases h v List.mem_cons_self with ⟨i, t, rfl⟩ | ⟨b, rfl⟩ <;> rfl
    rw [List.mapM_cons, e, types_mix fun u hu => h u (List.mem_cons_of_mem _ hu)]
    simp
theorem kind_mix {i : Int} {t : Tok} {us : List Value} {b : Bool} (h : ∀ v ∈ us, IsMix v) : keyKind' (Value.int i t :: (us ++ [Value.bool b])).toArray = pure general' := by
  have hm : ∀ v ∈ Value.int i t :: (us ++ [Value.bool b]), IsMix v := fun v hv => by
    rcases List.mem_cons.mp hv with rfl | hv
    · exact .inl ⟨_, _, rfl⟩
    · rcases List.mem_append.mp hv with hv | hv
      · exact h v hv
      · rw [List.mem_singleton.mp hv]; exact .inr ⟨_, rfl⟩
  rw [keyKind'_eq, List.mapM_toArray, first_mix hm]
  simp only [map_pure, pure_bind]
  rw [if_neg (by simp), if_neg (by simp)]
  rw [oneTypeOnly'_eq, List.mapM_toArray, types_mix hm]
  simp only [map_pure, pure_bind]
  have h0 : (List.map tyM (Value.int i t :: (us ++ [Value.bool b]))).toArray[0]? = some (Value.type "int") := by simp [tyM]
  have hall : ((List.map tyM (Value.int i t :: (us ++ [Value.bool b]))).toArray.all fun x => x == Value.type "int") = false := by
    simp only [List.all_toArray, List.all_map]
    refine List.all_eq_false.mpr ⟨.bool b, by simp, ?_⟩
    show ¬ ((Value.type "bool" == Value.type "int") = true)
    decide
  rw [h0]
  simp only [hall, Bool.false_eq_true, if_false, pure_bind, Option.isSome_none]
theorem mix_sortable {a : Addr} {us : List Value} {ns : List Int} {b : Bool} (hI : IntsAre us ns) (h2 : 2 ≤ (us ++ [Value.bool b]).length) : SrtO.SortableO prog w A s a (us ++ [.bool b]) ltM := by
  intro h' _
  have hm : ∀ v ∈ us ++ [Value.bool b], IsMix v := fun v hv => by
    rcases List.mem_append.mp hv with hv | hv
    · exact .inl (SrtO.ints_mem hI v hv)
    · rw [List.mem_singleton.mp hv]; exact .inr ⟨_, rfl⟩
  refine ⟨general', fun Q E hq => ?_, mix_cmp hm⟩
  cases hI with
  | nil => simp at h2
  | cons n t r =>
    rw [List.cons_append, kind_mix fun v hv => .inl (SrtO.ints_mem r v hv)]
    exact wpAny_pure hq
theorem sorted_tupM {a : Addr} {us : List Value} {ns : List Int} {b : Bool} {Q : Value → Shared → Prop} (at_a : IsTup s.heap a (us ++ [Value.bool b]).toArray) (nums : IntsAre us ns) (small : (us ++ [Value.bool b]).length ≤ sizeLine)
    (post : ∀ (s' : Shared) (p : Addr) (out : List Value) (ep : Nat), (∀ b o, s.heap.get? b = some o → s'.heap.get? b = some o) → s'.gens = s.gens → s'.os = s.os → (∀ o, s.heap.get? p ≠ some o) →
      s'.heap.get? p = some (seqObj "list" out.toArray ep) → out.Perm (us ++ [Value.bool b]) → Q (.ref p) s') : wpAny (model prog w) A (call (.builtin "sorted") [.ref a]) Q E s := by
  obtain ⟨o, at_o, cls, n, dat⟩ := (show s.heap.IsTuple a (us ++ [Value.bool b]).toArray from at_a)
  refine Calls.call_function_entry kind_sorted plain_sorted entry_sorted (args_sorted1 _) ?_
  unfold Builtin.«sorted»
  refine wpAny_bind (m := checkCount "sorted" 1 1 _) (wpAny_pure (wpAny_bind (wpAny_collect_seq a (T := "tuple") (.inr rfl) at_o cls dat (fun h1 k1 => ?_) (by rw [List.size_toArray]; exact small))))
  refine wpAny_bind (wpAny_newList ?_ small)
  have fresh : (h1.push (seqObj "list" (us ++ [Value.bool b]).toArray 0)).get? h1.objs.size = some (seqObj "list" (us ++ [Value.bool b]).toArray 0) := Heap.get?_push_size _ rfl
  have none_there : ∀ o, s.heap.get? h1.objs.size ≠ some o := fun o e => absurd (Heap.lt_size (k1 _ o e)) (Nat.lt_irrefl _)
  refine wpAny_bind (wpAny_holding (wpAny_call_entry slot_list_sort ⟨_, fresh, rfl⟩ entry_list_sort (SrtO.list_sort_ord swo_mix fresh small (fun h2 => mix_sortable nums h2) fun out q1 q2 => ⟨_, rfl, ?_⟩) (args_list_sort _)))
  obtain ⟨ep, at_p⟩ := sortedHeap_at (vs := us ++ [Value.bool b]) (out := out.toArray) fresh
  refine wpAny_pure ⟨_, rfl, post _ h1.objs.size out ep (fun b' u e => ?_) rfl rfl none_there at_p q2.perm⟩
  have e1 := k1 b' u e
  show (sortedHeap (h1.push (seqObj "list" (us ++ [Value.bool b]).toArray 0)) h1.objs.size (us ++ [Value.bool b]) out.toArray).get? b' = some u
  rw [sortedHeap_old (Nat.ne_of_lt (Heap.lt_size e1)) (by rw [size_push']; exact Nat.lt_succ_of_lt (Heap.lt_size e1))]
  exact Heap.get?_push_of_some _ e1
end
def vM : Value → V
  | .int i _ => .int i
  | .bool b => .bl b
  | _ => .non
theorem vals_mix : ∀ {us : List Value}, (∀ v ∈ us, IsMix v) → Vals (us.map vM) us
  | [], _ => .nil
  | v :: us, h => by
    refine .cons ?_ (vals_mix fun u hu => h u (List.mem_cons_of_mem _ hu))
    rcases h v List.mem_cons_self with ⟨i, t, rfl⟩ | ⟨b, rfl⟩
    · exact ⟨t, rfl⟩
    · rfl
/-- sorted(x), a tuple of whole numbers with a truth behind -/
def rSortedM (K : PySem.W.Frag) : List V → Hp → VK → Prop := fun vs H Q => ∃ (a : Addr) (ns : List Int) (b : Bool), vs = [V.ref a] ∧ SqT K H a (ns.map V.int ++ [V.bl b]) ∧
  ∀ (ys : List V) (p : Addr), ys.Perm (ns.map V.int ++ [V.bl b]) → H p = none → Q (.ref p) (upd H p (.lst ys))
theorem cr_sortedM {X : Cx} : CallR X (.builtin "sorted") (rSortedM X.K) := by
  intro pins s σ H vs us Q I r h
  obtain ⟨a, ns, b, rfl, hs, q⟩ := h
  obtain ⟨its, rv, hl, hz⟩ := I.tuple hs
  rw [Vals.ref1 r]
  have hn : (ns.map V.int).length = ns.length := List.length_map ..
  have r1 := rv.take ns.length
  have r2 := rv.drop ns.length
  rw [List.take_append_of_le_length (by omega), List.take_of_length_le (by omega)] at r1
  rw [List.drop_append_of_le_length (by omega), List.drop_of_length_le (by omega), List.nil_append] at r2
  obtain ⟨u, eu, ru⟩ := Vals.one r2
  have eb : u = Value.bool b := ru
  subst eb
  have eI : its = its.take ns.length ++ [Value.bool b] := by rw [← eu, List.take_append_drop]
  generalize its.take ns.length = us at *
  subst eI
  have hI := r1.ints
  have hlen := rv.length
  have hm : ∀ v ∈ us ++ [Value.bool b], IsMix v := fun v hv => by
    rcases List.mem_append.mp hv with hv | hv
    · exact .inl (SrtO.ints_mem hI v hv)
    · rw [List.mem_singleton.mp hv]; exact .inr ⟨_, rfl⟩
  have ev : (us ++ [Value.bool b]).map vM = ns.map V.int ++ [V.bl b] := Vals.inj (vals_mix hm) rv
  refine sorted_tupM hl hI (by rw [← hlen]; exact hz) fun s' p out ep k gs os no at_p pm => ?_
  have hp : (out.map vM).Perm (ns.map V.int ++ [V.bl b]) := by rw [← ev]; exact pm.map vM
  have len : (out.map vM).length ≤ sizeLine := by rw [hp.length_eq]; exact hz
  obtain ⟨na, J⟩ := inv_new (u := .lst (out.map vM)) I k gs os no ⟨len, out, ep, vals_mix fun v hv => hm v (pm.mem_iff.mp hv), at_p⟩
  exact ⟨.ref p, _, J, rfl, q _ p hp na⟩
theorem cr_sortedAM {X : Cx} : CallR X (.builtin "sorted") (fun vs H Q => rSortedA X.K vs H Q ∨ rSortedM X.K vs H Q) := by
  intro pins s σ H vs us Q I r h
  rcases h with h | h
  · exact cr_sortedA pins s σ H vs us Q I r h
  · exact cr_sortedM pins s σ H vs us Q I r h
section
variable {K : PySem.W.Frag} {H : Hp} {g : GH}
theorem Reps.mix (ns : List Int) (b : Bool) : Reps K H g (ns.map V.int ++ [V.bl b]) (ns.map D.int ++ [D.bl b]) := by
  induction ns with
  | nil => exact .cons (.bl b) .nil
  | cons n ns ih => exact .cons (.int n) ih
theorem Reps.mix_inv : ∀ {vs : List V} {ns : List Int} {b : Bool}, Reps K H g vs (ns.map D.int ++ [D.bl b]) → vs = ns.map V.int ++ [V.bl b]
  | _, [], b, .cons r .nil => by cases r; rfl
  | _, n :: ns, b, .cons r t => by cases r; rw [Reps.mix_inv t]; rfl
/-- another order of the same -/
theorem reps_perm {vs ys : List V} {ws : List D} (r : Reps K H g vs ws) (h : ys.Perm vs) : ∃ ds : List D, ds.Perm ws ∧ Reps K H g ys ds := by
  induction h generalizing ws with
  | nil => cases r; exact ⟨[], .refl _, .nil⟩
  | cons x _ ih =>
    cases r with
    | cons q t =>
      obtain ⟨ds, h1, h2⟩ := ih t
      exact ⟨_, h1.cons _, .cons q h2⟩
  | swap x y l =>
    cases r with
    | cons q t =>
      cases t with
      | cons q2 t => exact ⟨_, List.Perm.swap .., .cons q2 (.cons q t)⟩
  | trans h1 h2 ih1 ih2 =>
    obtain ⟨ds, p1, r1⟩ := ih2 r
    obtain ⟨es, p2, r2⟩ := ih1 r1
    exact ⟨es, p2.trans p1, r2⟩
end
end G3
/-! G3x: exceptions of the program's own classes: what the written part says; isinstance(e, C), e.f of a tracked one -/
namespace G3
open PySem PySem.Spec PySem.Calls PyProof.Rows L2
open PySem.W (Looks InstAt findIn specialIn takesIn subIn mroIn hasDictIn clsIn findObj any_some looks_findIn looks_find looks_subIn KitX)
section
variable {prog : Program} {w : World} {A : Around} {E : Value → Shared → Prop} {s : Shared} {K : PySem.W.Frag} {x D : Addr} {ox : Obj} {od : Option Obj}
/-- a data descriptor of the class is found ahead of the dict -/
theorem found_data {C : Addr} {nm : Str} {a g : Value} (q1 : (clsIn K C).isSome = true) (q2 : findIn K (.ref C) nm = some (some a)) (q3 : specialIn K a "__get__" = some (some g)) (q4 : takesIn K a = some true) : findObj K C od nm = some (.bind g a) := by
  obtain ⟨cd, q1⟩ := Option.isSome_iff_exists.mp q1
  unfold findObj
  rw [q1, Option.bind_some, q2, Option.bind_some]
  simp [q3, q4]
/-- e.__class__ of an exception of a class of one's own, with a dict or without -/
theorem class_of_exc {Q : Option Value → Shared → Prop} (C : ExcC K D) (X : K.In s.heap) (I : InstAt s.heap x ox D od) (post : Q (some (.ref D)) { s with toks := s.toks + 1 }) : wpAny (model prog w) A (getAttr? (.ref x) "__class__") Q E s := by
  obtain ⟨h1, h2, h3, h4, h5, h6, h7, h8⟩ := C
  have found : findObj K D od "__class__" = some (.bind (.builtin "getset_descriptor.__get__") (.builtin "object.__class__")) := found_data (by obtain ⟨cd, e, _⟩ := any_some h4; rw [e]; rfl) h5 h6 h7
  obtain ⟨hp, gs, dr, tk, os⟩ := s
  have k0 := I.type (M := model prog w)
  have k1 := looks_findIn (M := model prog w) X h1
  have k2 := looks_findIn (M := model prog w) X h2
  have k3 := looks_find (M := model prog w) X I found
  have isE : Looks (model prog w) hp (isInstance (.ref x) (.type "BaseException")) true := k0.andThen (looks_subIn X h3)
  have n0 : (false && onTheHeap (Value.builtin "BaseException.__getattribute__")) = false := rfl
  have n2 : (Value.builtin "BaseException.__getattribute__" == Value.builtin "object.__getattribute__") = false := by decide +kernel
  have n1 : (onTheHeap (Value.ref D) && Value.builtin "BaseException.__getattribute__" == Value.builtin "object.__getattribute__") = false := by rw [n2]; rfl
  unfold getAttr? getAttrBy? getAttrBy
  refine wpAny_bind (wpAny_mkText (wpAny_bind (wpAny_attempt (wpAny_holding (wpAny_bind (k0.at (wpAny_bind (k1.at ?_))))))))
  show wpAny _ _ (if (onTheHeap (Value.ref D) && Value.builtin "BaseException.__getattribute__" == Value.builtin "object.__getattribute__") = true then _ else _) _ _ _
  rw [n1, if_neg Bool.false_ne_true]
  unfold getAttrByItsOwn hookBefore
  refine wpAny_bind ?_
  have n4 : onTheHeap (Value.ref D) = true := rfl
  rw [if_pos n4]
  refine k2.at (wpAny_bind (wpAny_attempt (wpAny_holding ?_)))
  unfold callGetattribute
  rw [n0, if_neg Bool.false_ne_true]
  unfold boundAndCalled
  rw [PySem.F.excAttr_ValueError.ga.bind (.ref x)]
  refine wpAny_bind (wpAny_pure ?_)
  show wpAny _ _ (call (.builtin "BaseException.__getattribute__") [.ref x, .str "__class__" tk]) _ _ _
  refine wpAny_call (codeAny_call_builtin PySem.F.excAttr_ValueError.ga.plain PySem.F.entry_bexc_ga ?_)
  refine @PySem.W.check_slot (model prog w) _ _ ⟨hp, gs, dr, tk + 1, os⟩ "BaseException.__getattribute__" "BaseException" "__getattribute__" (.ref x) [.str "__class__" tk] [] _ (by decide +kernel) (by decide +kernel) isE (PySem.F.args_bexc_ga (.ref x) (.str "__class__" tk)) ?_
  unfold Builtin.«object.__getattribute__»
  refine wpAny_bind (wpAny_of_eq (a := ((Value.ref x : Value), [Value.str "__class__" tk])) (by first | rfl | (simp only [slotArgs]; rfl)) ?_)
  refine wpAny_bind (wpAny_pure (wpAny_bind (k0.at (wpAny_bind (k3.at ?_)))))
  show wpAny _ _ (holding [Value.builtin "object.__class__"] (call (.builtin "getset_descriptor.__get__") [.builtin "object.__class__", .ref x, .ref D]) >>= ret) _ _ _
  refine wpAny_bind (wpAny_holding (wpAny_call (PySem.W.class_get (s := ⟨hp, gs, dr, tk + 1, os⟩) (ox := ox) (od := od) X I h8 (wpAny_pure ?_))))
  show wpAny _ _ (handedOut (.ref D)) _ _ _
  rw [PySem.W.handedOut_of (v := .ref D) rfl]
  first
    | exact wpAny_pure (wpAny_pure post)
    | exact wpAny_pure post
    | exact wpAny_pure (wpAny_bind (wpAny_pure (wpAny_pure post)))
theorem kit_exc (C : ExcC K D) : KitX K (.ref x) (.ref D) (fun h => InstAt h x ox D od) where
  ty := fun _ _ _ I => I.type
  it := fun _ _ X _ => by
    obtain ⟨cd, q, _⟩ := any_some C.hd
    unfold clsIn at q
    split at q
    · rename_i e
      intro A' Q' E' s' k post
      unfold isType loadHead
      exact wpAny_bind (wpAny_loadPart (k _ _ (X _ _ e)) (wpAny_pure post))
    · cases q
  ne := fun h tp dd its n sl X e => by
    obtain ⟨cd, q, _⟩ := any_some C.hd
    refine Bool.eq_false_iff.mpr fun z => ?_
    obtain rfl : D = tp := Value.ref.inj (beq_iff_eq.mp z)
    unfold clsIn at q
    split at q
    · rename_i e2
      have := (X _ _ e2).symm.trans e
      cases this
    · cases q
  ca := fun X I k => class_of_exc C X I k
end
/-- a tracked exception: its object, and its dict where it has one -/
def ExT (H : Hp) (a D : Addr) : Option Addr → Prop
  | none => H a = some (.ext (IsX a (.ref D) none))
  | some dd => H a = some (.ext (IsX a (.ref D) (some dd))) ∧ ∃ fs, H dd = some (.xd fs)
theorem ExT.inst {X : Cx} {pins : List (Addr × Obj)} {σ : L2.St} {H : Hp} {s : Shared} (I : Inv X pins σ H s) {a D : Addr} {d : Option Addr} (h : ExT H a D d) : ∃ oe od, InstAt s.heap a oe D od := by
  match d, h with
  | none, h =>
    obtain ⟨⟨o, vs, e, e1, e2, e3⟩, _⟩ := I.hok a _ h
    exact ⟨o, none, e, e1, by unfold PySem.W.notCls; rw [e3] <;> rfl, by rw [e2]; trivial⟩
  | some dd, ⟨h, fs, h2⟩ =>
    obtain ⟨⟨o, vs, e, e1, e2, e3⟩, _⟩ := I.hok a _ h
    obtain ⟨mA, hns, _⟩ := I.hok dd _ h2
    obtain ⟨od, ho, _⟩ := lookIn_ns hns
    exact ⟨o, some od, e, e1, by unfold PySem.W.notCls; rw [e3] <;> rfl, by rw [e2]; exact ho⟩
/-- isinstance(e, c) -/
def rIsX (K : PySem.W.Frag) : List V → Hp → VK → Prop := fun xs H Q => (∃ (a D : Addr) (d : Option Addr) (c : V) (cv : Value) (b : Bool), xs = [.ref a, c] ∧ ExT H a D d ∧ ExcC K D ∧ (∀ u, RelV c u → u = cv) ∧ PySem.W.kitOne K (.ref D) cv = some b ∧ Q (.bl b) H) ∨
  ∃ (a D tp : Addr) (d : Option Addr) (cs : List V) (us : List Value) (b : Bool), xs = [.ref a, .ref tp] ∧ ExT H a D d ∧ ExcC K D ∧ SqT K H tp cs ∧ Paired ClsV cs us ∧ PySem.W.kitAny K (.ref D) us = some b ∧ Q (.bl b) H
theorem call_isX {X : Cx} : CallR X (.builtin "isinstance") (rIsX X.K) := by
  intro pins s σ H xs us Q I r h
  rcases h with ⟨a, D, d, c, cv, b, rfl, ht, C, hcv, e, q⟩ | ⟨a, D, tp, d, cs, ws, b, rfl, ht, C, hT, k, e, q⟩
  rotate_left
  · obtain ⟨u1, u2, rfl, r1, r2⟩ := vals2 r
    cases (show u2 = Value.ref tp from r2)
    cases (show u1 = Value.ref a from r1)
    obtain ⟨oe, od, J⟩ := ht.inst I
    obtain ⟨its, rv, p, hz⟩ := I.tuple hT
    have e3 := ClsV.all k rv
    subst e3
    obtain ⟨⟨oc, od2, dt, sl⟩, ho, hc, n, hdt⟩ := p
    simp only at hc hdt
    subst hc hdt
    exact PySem.W.kia_tup (kit_exc C) I.kIn J ho e (fun z => nomatch z) fun tk => ⟨.bl b, H, I.kept (t' := tk) fun _ _ z => z, rfl, q⟩
  cases r with
  | cons rx rr =>
    cases rr with
    | cons rt rr =>
      cases rr
      cases rx
      obtain rfl := hcv _ rt
      obtain ⟨oe, od, J⟩ := ht.inst I
      exact PySem.W.kia_one (kit_exc C) I.kIn J e (fun z => nomatch z) fun tk => ⟨.bl b, H, I.kept (t' := tk) fun _ _ z => z, rfl, q⟩
/-- e.f -/
def rXf (K : PySem.W.Frag) (f : Str) : V → Hp → VK → Prop := fun x H Q => ∃ (a D dd : Addr) (fs : List (Str × V)) (v : V), x = .ref a ∧ ExT H a D (some dd) ∧ H dd = some (.xd fs) ∧ XfC K D ∧ findIn K (.ref D) f = some none ∧ fs.lookup f = some v ∧ Q v H
theorem pe_xat {X : Cx} {e : Expr} {te : TE} {pos : Pos} {n : Str} (he : PE X e te) (hb : attributeBase e n X.env (eval e X.env) = eval e X.env := by rfl) : PE X (.Attribute e n pos) (fun σ H Q => te σ H fun x H1 => rXf X.K n x H1 Q) := by
  refine ⟨fun pins s σ H Q I h => attr_of hb (thn (he.run pins s σ H _ I h) fun u s1 ⟨x, H1, I1, rx, hx⟩ => ?_)⟩
  obtain ⟨a, D, dd, fs, v, rfl, ht, hd, T, hno, l, q⟩ := hx
  obtain rfl : u = Value.ref a := rx
  obtain ⟨⟨o, vs, e, e1, e2, e3⟩, _⟩ := I1.hok a _ ht.1
  obtain ⟨mA, hns, hr⟩ := I1.hok dd _ hd
  obtain ⟨od, ho, hl⟩ := lookIn_ns hns
  obtain ⟨u, hu, ru⟩ := RelO.some_of (v := v) (o := mA n) (by rw [← l]; exact hr n)
  have J : InstAt s1.heap a o D (some od) := ⟨e, e1, by unfold PySem.W.notCls; rw [e3] <;> rfl, by rw [e2]; exact ho⟩
  exact HandSPX.exc_get I1.kIn J T.ga T.gg T.exC (PySem.W.findObj_own T.hdC hno rfl (by rw [hl, hu])) (handed_of ru) ⟨v, H1, I1.tok _, ru, q⟩

/-! ### the classes, by name -/
def upN : Str := "SpareError"
/-- is a class C's exception one of c? -/
def exSub (x c : Str) : Bool := c == upN || x == c
/-- the classes, all of them -/
def exN : List Str := ["NoCut", "NoLadder", "NoInstead", "TooGreat", "TooMany", "NoTelling", "NoText", "NoRow", "NoBack"]
def ceB (K : PySem.W.Frag) (D : Addr) : Bool :=
  decide (findIn K (.ref D) "__getattribute__" = some (some (.builtin "BaseException.__getattribute__"))) && (decide (findIn K (.ref D) "__getattr__" = some none) && (decide (subIn K (.ref D) (.type "BaseException") = some true) &&
  (hasDictIn K D && (decide (findIn K (.ref D) "__class__" = some (some (.builtin "object.__class__"))) && (decide (specialIn K (.builtin "object.__class__") "__get__" = some (some (.builtin "getset_descriptor.__get__"))) &&
  (decide (takesIn K (.builtin "object.__class__") = some true) && decide (mroIn K D (.type "object") = some true)))))))
theorem ceB_ok {K : PySem.W.Frag} {D : Addr} (h : ceB K D = true) : ExcC K D := by
  simp only [ceB, Bool.and_eq_true, decide_eq_true_eq] at h
  obtain ⟨h1, h2, h3, h4, h5, h6, h7, h8⟩ := h
  exact ⟨h1, h2, h3, h4, h5, h6, h7, h8⟩
def exOne (K : PySem.W.Frag) (x : Str) : Bool :=
  decide (PySem.W.nsIn K mainGlobals x = some (some (.ref (He.ga K x)))) && (ceB K (He.ga K x) && (decide (PySem.W.typeIn K (.ref (He.ga K x)) = some (.type "type")) && (decide (findIn K (.ref (He.ga K x)) "at" = some none) &&
  (decide (PySem.W.kitOne K (.ref (He.ga K x)) (.type "ValueError") = some true) && PySem.W.keepIn K (.ref (He.ga K x))))))
def exTwo (K : PySem.W.Frag) (x c : Str) : Bool :=
  decide (PySem.W.nsIn K mainGlobals c = some (some (.ref (He.ga K c)))) && (decide (PySem.W.exmOne K (.ref (He.ga K x)) (.ref (He.ga K c)) = some (exSub x c)) && decide (PySem.W.kitOne K (.ref (He.ga K x)) (.ref (He.ga K c)) = some (exSub x c)))
/-- the written part says of the classes xs what it should -/
def exB (xs : List Str) (K : PySem.W.Frag) : Bool := xs.all fun x => exOne K x && (upN :: xs).all fun c => exTwo K x c
structure ExcW (K : PySem.W.Frag) (xs : List Str) : Prop where
  one : ∀ x ∈ xs, gaK K x = some (He.ga K x) ∧ ExcC K (He.ga K x) ∧ PySem.W.typeIn K (.ref (He.ga K x)) = some (.type "type") ∧ findIn K (.ref (He.ga K x)) "at" = some none ∧ PySem.W.kitOne K (.ref (He.ga K x)) (.type "ValueError") = some true ∧ PySem.W.keepIn K (.ref (He.ga K x)) = true
  two : ∀ x ∈ xs, ∀ c ∈ upN :: xs, gaK K c = some (He.ga K c) ∧ PySem.W.exmOne K (.ref (He.ga K x)) (.ref (He.ga K c)) = some (exSub x c) ∧ PySem.W.kitOne K (.ref (He.ga K x)) (.ref (He.ga K c)) = some (exSub x c)
theorem gaK_of {K : PySem.W.Frag} {x : Str} (h : PySem.W.nsIn K mainGlobals x = some (some (.ref (He.ga K x)))) : gaK K x = some (He.ga K x) := by
  unfold gaK; rw [h]
theorem exB_ok {K : PySem.W.Frag} {xs : List Str} (h : exB xs K = true) : ExcW K xs := by
  have q : ∀ x ∈ xs, exOne K x = true ∧ ∀ c ∈ upN :: xs, exTwo K x c = true := fun x hx => by
    have := List.all_eq_true.mp h x hx
    rw [Bool.and_eq_true] at this
    exact ⟨this.1, List.all_eq_true.mp this.2⟩
  refine ⟨fun x hx => ?_, fun x hx c hc => ?_⟩
  · have := (q x hx).1
    simp only [exOne, Bool.and_eq_true, decide_eq_true_eq] at this
    obtain ⟨h1, h2, h3, h4, h5, h6⟩ := this
    exact ⟨gaK_of h1, ceB_ok h2, h3, h4, h5, h6⟩
  · have := (q x hx).2 c hc
    simp only [exTwo, Bool.and_eq_true, decide_eq_true_eq] at this
    exact ⟨gaK_of this.1, this.2⟩
theorem ExcW.sub {K : PySem.W.Frag} {xs ys : List Str} (E : ExcW K ys) (s : ∀ x ∈ xs, x ∈ ys) : ExcW K xs :=
  ⟨fun x hx => E.one x (s x hx), fun x hx c hc => E.two x (s x hx) c ((List.mem_cons.mp hc).elim (fun e => e ▸ List.mem_cons_self) fun m => List.mem_cons_of_mem _ (s c m))⟩
theorem ExcW.nil {K : PySem.W.Frag} : ExcW K [] := ⟨fun _ h => absurd h (by simp), fun _ h => absurd h (by simp)⟩
/-- isinstance(e, c) of a caught exception, over data: c a class of the program, or ValueError -/
def fIsE (xs : List Str) : List D → GH → QK → Prop := fun ds g Q => match ds with
  | [.exc C _, .gl c] => C ∈ xs ∧ c ∈ upN :: xs ∧ Q (.v (.bl (exSub C c))) g
  | [.exc C _, .ty t] => C ∈ xs ∧ t = "ValueError" ∧ Q (.v (.bl true)) g
  | [.exc C _, .tup cs] => C ∈ xs ∧ ∃ ns : List Str, cs = ns.map .gl ∧ (∀ c ∈ ns, c ∈ upN :: xs) ∧ Q (.v (.bl (ns.any (exSub C)))) g
  | _ => False
theorem Rep.exc_inv {K : PySem.W.Frag} {H : Hp} {g : GH} {v : V} {C : Str} {n : Option Int} (r : Rep K H g v (.exc C n)) : ∃ a c d, v = .ref a ∧ gaK K C = some c ∧ ExT H a c d := by
  cases r with
  | exc0 h1 h2 h3 => exact ⟨_, _, none, rfl, h1, h2⟩
  | exc1 h1 h2 h3 h4 h5 => exact ⟨_, _, some _, rfl, h1, h2, _, h4⟩
theorem ExT.un {H : Hp} {B : List Addr} {a c : Addr} {d : Option Addr} (h : ExT (hide H B) a c d) : ExT H a c d := by
  cases d with
  | none => exact (of_hide h).1
  | some d => exact ⟨(of_hide h.1).1, h.2.imp fun _ z => (of_hide z).1⟩
theorem cls_tup {K : PySem.W.Frag} {H : Hp} {g : GH} {xs : List Str} {C : Str} (E : ExcW K xs) (hC : C ∈ xs) : ∀ {ns : List Str} {vs : List V}, (∀ c ∈ ns, c ∈ upN :: xs) → Reps K H g vs (ns.map .gl) →
    ∃ us, Paired ClsV vs us ∧ PySem.W.kitAny K (.ref (He.ga K C)) us = some (ns.any (exSub C))
  | [], _, _, .nil => ⟨[], .nil, rfl⟩
  | n :: ns, _, hn, .cons r t => by
    obtain ⟨us, hP, hk⟩ := cls_tup E hC (fun c m => hn c (List.mem_cons_of_mem _ m)) t
    cases r with
    | @gl a _ e =>
      obtain ⟨p1, p2, p3⟩ := E.two C hC n (hn n List.mem_cons_self)
      rw [e] at p1; cases p1
      refine ⟨_, .cons (.own _) hP, kitAny_cons p3 (fun h => ?_) fun h => ?_⟩
      · rw [hk, List.any_cons, h]; rfl
      · rw [List.any_cons, h]; rfl
theorem ok_isE {K : PySem.W.Frag} {xs : List Str} (E : ExcW K xs) : RNOk K (fIsE xs) (rIsX K) := fun vs ds B H g Q0 Q r w q c => by
  unfold fIsE at q
  split at q
  · rename_i C n y
    obtain ⟨hC, hy, q⟩ := q
    match r with
    | .cons r1 (.cons r2 .nil) =>
      obtain ⟨a, c1, d, rfl, e1, t⟩ := r1.exc_inv
      obtain ⟨o1, o2, o3, o4, o5, o6⟩ := E.one C hC
      obtain ⟨p1, p2, p3⟩ := E.two C hC y hy
      rw [e1] at o1; cases o1
      cases r2 with
      | gl e2 =>
        rw [e2] at p1; cases p1
        exact .inl ⟨a, _, d, _, _, _, rfl, t.un, o2, fun u hu => hu, p3, c.here q (.bl _) w⟩
  · rename_i C n y
    obtain ⟨hC, rfl, q⟩ := q
    match r with
    | .cons r1 (.cons r2 .nil) =>
      obtain ⟨a, c1, d, rfl, e1, t⟩ := r1.exc_inv
      obtain ⟨o1, o2, o3, o4, o5, o6⟩ := E.one C hC
      rw [e1] at o1; cases o1
      cases r2
      exact .inl ⟨a, _, d, _, _, _, rfl, t.un, o2, fun u hu => hu, o5, c.here q (.bl _) w⟩
  · rename_i C n cs
    obtain ⟨hC, ns, rfl, hns, q⟩ := q
    match r with
    | .cons r1 (.cons r2 .nil) =>
      obtain ⟨a, c1, d, rfl, e1, t⟩ := r1.exc_inv
      obtain ⟨o1, o2, o3, o4, o5, o6⟩ := E.one C hC
      rw [e1] at o1; cases o1
      cases r2 with
      | @tup tp vs _ hT rv =>
        obtain ⟨us, hP, hk⟩ := cls_tup (C := C) E hC hns rv
        exact .inr ⟨a, _, tp, d, vs, us, _, rfl, t.un, o2, .inl (.inl (of_hide hT).1), hP, hk, c.here q (.bl _) w⟩
  · exact q.elim
end G3
/-! G3n: lists and tuples alike -/
namespace G3
open PySem PySem.Spec PyProof.Rows L2
/-- the items of a list or a tuple, and what must stand while it is walked -/
def seqOf (g : GH) (x : R) (k : List D → (GH → Prop) → Prop) : Prop := match x with
  | .tl ds => k ds fun _ => True
  | .v (.lst ds) => k ds fun _ => True
  | .v (.tup ds) => k ds fun _ => True
  | .v (.ref p) => ∃ ds, g p = some (.lst ds) ∧ k ds fun g' => g' p = some (.lst ds)
  | _ => False
theorem seqOf.cases {g : GH} {x : R} {k : List D → (GH → Prop) → Prop} (h : seqOf g x k) : ∃ ds, (lstOf g x ds ∧ k ds (gdOf x ds)) ∨ (tupOf x ds ∧ k ds fun _ => True) := by
  match x, h with
  | .tl ds, h => exact ⟨ds, .inl ⟨rfl, h⟩⟩
  | .v (.lst ds), h => exact ⟨ds, .inl ⟨rfl, h⟩⟩
  | .v (.tup ds), h => exact ⟨ds, .inr ⟨rfl, h⟩⟩
  | .v (.ref p), ⟨ds, h1, h2⟩ => exact ⟨ds, .inl ⟨h1, h2⟩⟩
/-! ### an item -/
def fIxA : R → R → GH → QK → Prop := fun x y g Q => match x, y with
  | .v (.str z), .v (.int i) => z.length ≤ sizeLine ∧ ∃ c, atI z.cps.toList i = some c ∧ Q (.v (.str ⟨#[c]⟩)) g
  | x, .v (.int i) => seqOf g x fun ds _ => ∃ d, atI ds i = some d ∧ Q (.v d) g
  | _, _ => False
def rIxA (K : PySem.W.Frag) : R2 := fun x y H Q => rIxL K x y H Q ∨ rIxT K x y H Q ∨ rIxS x y H Q
theorem ix_any {X : Cx} : IxR X (rIxA X.K) := fun a b pins s σ H x y v u Q I rx ry h e => by
  rcases h with h | h | h
  · exact ix_list a b pins s σ H x y v u Q I rx ry h e
  · exact ix_tup a b pins s σ H x y v u Q I rx ry h e
  · exact ix_str a b pins s σ H x y v u Q I rx ry h e
theorem ok_ixA {K : PySem.W.Frag} : R2Ok K fIxA (rIxA K) := fun x y d e B H g Q0 Q rx ry rg q c => by
  unfold fIxA at q
  split at q
  · exact .inr (.inr (ok_ixS x y _ _ B H g Q0 Q rx ry rg q c))
  · obtain ⟨ds, ⟨h, z, hz, q⟩ | ⟨h, z, hz, q⟩⟩ := q.cases
    · exact .inl (ok_ixL x y d _ B H g Q0 Q rx ry rg ⟨ds, z, h, hz, q⟩ c)
    · exact .inr (.inl (ok_ixT x y d _ B H g Q0 Q rx ry rg ⟨ds, z, h, hz, q⟩ c))
  · exact q.elim
/-! ### a slice -/
def fSlA : R → Option Int → Option Int → GH → QK → Prop := fun x lo hi g Q => match x with
  | .tl a => Q (.tl (cutD a lo hi)) g
  | .v (.lst a) => Q (.tl (cutD a lo hi)) g
  | .v (.rl a) => Q (.tl (cutD a lo hi)) g
  | .v (.tup a) => Q (.v (.tup (cutD a lo hi))) g
  | .v (.str z) => z.length ≤ sizeLine ∧ Q (.v (.str (cutS z lo hi))) g
  | .v (.ref p) => ∃ a, g p = some (.lst a) ∧ Q (.tl (cutD a lo hi)) g
  | _ => False
/-! ### put together -/
def fAddA : R → R → GH → QK → Prop := fun x y g Q => match x, y with
  | .v (.int i), .v (.int j) => Q (.v (.int (i + j))) g
  | .v (.str i), .v (.str j) => i.length + j.length ≤ sizeLine ∧ Q (.v (.str (i ++ j))) g
  | .v (.tup a), .v (.tup b) => a.length + b.length ≤ sizeLine ∧ Q (.v (.tup (a ++ b))) g
  | x, y => ∃ a b, lstOf g x a ∧ lstOf g y b ∧ a.length + b.length ≤ sizeLine ∧ Q (.tl (a ++ b)) g
def rAddA (K : PySem.W.Frag) : R2 := fun x y H Q => rI0 (fun i j => .int (i + j)) x y H Q ∨ (∃ i j, x = .str i ∧ y = .str j ∧ i.length + j.length ≤ sizeLine ∧ Q (.str (i ++ j)) H) ∨ rCatA K x y H Q ∨ rCat x y H Q
theorem op_addA {X : Cx} : OpR X (binaryOp .Add) (rAddA X.K) := fun pins s σ H x y v u Q I rx ry h => by
  rcases h with h | h | h | h
  · exact op_add pins s σ H x y v u Q I rx ry h
  · exact op_add_str pins s σ H x y v u Q I rx ry h
  · exact op_catA pins s σ H x y v u Q I rx ry h
  · exact op_cat pins s σ H x y v u Q I rx ry h
theorem ok_addA {K : PySem.W.Frag} : R2Ok K fAddA (rAddA K) := fun x y d e B H g Q0 Q rx ry rg q c => by
  unfold fAddA at q
  split at q
  · exact .inl ⟨_, _, int_of rx, int_of ry, c.here q (.int _) rg⟩
  · exact .inr (.inl ⟨_, _, str_of rx, str_of ry, q.1, c.here q.2 (.str _) rg⟩)
  · exact .inr (.inr (.inl (ok_addT x y _ _ B H g Q0 Q rx ry rg ⟨_, _, rfl, rfl, q⟩ c)))
  · exact .inr (.inr (.inr (ok_addL x y _ _ B H g Q0 Q rx ry rg q c)))
/-! ### in -/
def rInTD (K : PySem.W.Frag) (neg : Bool) : R2 := fun x y H Q => ∃ d ds, Dp K H x d ∧ Dp K H y (.tuple ds) ∧ SeqAt.shaped d = true ∧ SeqAt.shaped (.tuple ds) = true ∧ Q (.bl (neg ^^ ds.any fun z => PyData.eqv z d)) H
theorem op_inTD {X : Cx} (units : X.A.units + 65 < cLine) : OpR X (compareOp .In) (rInTD X.K false) := by
  rintro pins s σ H x y v u Q I rx ry ⟨d, ds, hd, he, sd, se, q⟩
  obtain ⟨as, r1⟩ := Dp.reads I d x v hd rx
  obtain ⟨bs, r2⟩ := Dp.reads I (.tuple ds) y u he ry
  refine SeqAt.in_tuple_reads r2 r1 (SeqAt.canLay_of_shaped se) (SeqAt.canLay_of_shaped sd) (room_in_shaped sd units) ⟨.bl _, H, I, rfl, ?_⟩
  rw [Bool.false_xor] at q; exact q
theorem op_ninTD {X : Cx} (units : X.A.units + 65 < cLine) : OpR X (compareOp .NotIn) (rInTD X.K true) := by
  rintro pins s σ H x y v u Q I rx ry ⟨d, ds, hd, he, sd, se, q⟩
  obtain ⟨as, r1⟩ := Dp.reads I d x v hd rx
  obtain ⟨bs, r2⟩ := Dp.reads I (.tuple ds) y u he ry
  refine SeqAt.notIn_tuple_reads r2 r1 (SeqAt.canLay_of_shaped se) (SeqAt.canLay_of_shaped sd) (room_in_shaped sd units) ⟨.bl _, H, I, rfl, ?_⟩
  rw [Bool.true_xor] at q; exact q
def fInA (neg : Bool) : R → R → GH → QK → Prop := fun x y g Q => seqOf g y fun a _ => okD 64 x.fz = true ∧ okDs 63 a = true ∧ Q (.v (.bl (neg ^^ inD x.fz a))) g
theorem fInT_dp {K : PySem.W.Frag} {H : Hp} {g : GH} {v : V} {r : R} {a : List D} (ry : Rep K H g v r.fz) (ha : tupOf r a) (ka : okDs 63 a = true) : Dp K H v (.tuple (pds a)) ∧ SeqAt.shaped (.tuple (pds a)) = true := by
  obtain ⟨p, vs, rfl, hp, r1⟩ := ha.rep ry
  have k : okD 64 (.tup a) = true := by simpa only [okD] using ka
  exact ⟨.tup hp (r1.dp 63 ka), okD_shaped k⟩
def rInA (K : PySem.W.Frag) (neg : Bool) : R2 := fun x y H Q => (if neg then rNotInD K x y H Q else rInD K x y H Q) ∨ rInTD K neg x y H Q
theorem op_inA {X : Cx} (units : X.A.units + 65 < cLine) : OpR X (compareOp .In) (rInA X.K false) := fun pins s σ H x y v u Q I rx ry h => by
  rcases h with h | h
  · exact op_inD units pins s σ H x y v u Q I rx ry h
  · exact op_inTD units pins s σ H x y v u Q I rx ry h
theorem op_ninA {X : Cx} (units : X.A.units + 65 < cLine) : OpR X (compareOp .NotIn) (rInA X.K true) := fun pins s σ H x y v u Q I rx ry h => by
  rcases h with h | h
  · exact op_notInD units pins s σ H x y v u Q I rx ry h
  · exact op_ninTD units pins s σ H x y v u Q I rx ry h
theorem ok_inA {K : PySem.W.Frag} {neg : Bool} : R2Ok K (fInA neg) (rInA K neg) := fun x y d e B H g Q0 Q rx ry rg q c => by
  obtain ⟨a, ⟨ha, kx, ka, q⟩ | ⟨ha, kx, ka, q⟩⟩ := q.cases
  · refine .inl ?_
    cases neg with
    | false => exact ok_inD x y d e B H g Q0 Q rx ry rg ⟨a, ha, kx, ka, by rw [Bool.false_xor] at q; exact q⟩ c
    | true => exact ok_notInD x y d e B H g Q0 Q rx ry rg ⟨a, ha, kx, ka, by rw [Bool.true_xor] at q; exact q⟩ c
  · obtain ⟨h1, h2⟩ := fInT_dp ry.un ha ka
    exact .inr ⟨_, _, rx.un.dp 64 kx, h1, okD_shaped kx, h2, by rw [pds_any]; exact c.here q (.bl _) rg⟩
/-! ### walked -/
def iSeqA (K : PySem.W.Frag) (tl : TE) : TI := fun σ H R => tl σ H fun x H1 => ∃ a, x = .ref a ∧ (((∃ xs, SqL K H1 a xs) ∧ R (Itl K a) H1) ∨ ((∃ xs, SqT K H1 a xs) ∧ R (Itt K a) H1))
theorem pi_seqA {X : Cx} {tg l : Expr} {tl : TE} (hl : PE X l tl) : PI X tg l (iSeqA X.K tl) := by
  constructor
  intro pins s σ H R I h
  refine thn (hl.run pins s σ H _ I h) ?_
  rintro v s1 ⟨x, H1, I1, r1, a, rfl, q⟩
  obtain rfl : v = Value.ref a := r1
  have fresh : ∀ (b : Addr), b ∈ [s1.heap.objs.size] → FpOk X pins H1 b ∧ b < (s1.heap.push (default : Obj)).objs.size → True := fun _ _ _ => trivial
  rcases q with ⟨⟨xs, hq⟩, q⟩ | ⟨⟨xs, hq⟩, q⟩
  · obtain ⟨its, rv, p, hz⟩ := I1.list hq
    refine wpAny_pyIter_list p.isList ⟨s1.heap.objs.size, [s1.heap.objs.size], _, _, H1, rfl, I1.kept (t' := s1.toks) fun b o e => Heap.get?_push_of_some _ e, turn_list a _, ⟨_, Heap.get?_push_size _ rfl, rfl, rfl⟩, fun b hb => ?_, q⟩
    obtain rfl : b = s1.heap.objs.size := by simpa using hb
    exact I1.fpOk (Nat.le_refl _) (I1.hok.fresh (Nat.le_refl _))
  · obtain ⟨its, rv, p, hz⟩ := I1.tuple hq
    refine wpAny_pyIter_tuple (show s1.heap.IsTuple a its.toArray from p) ⟨s1.heap.objs.size, [s1.heap.objs.size], _, _, H1, rfl, I1.kept (t' := s1.toks) fun b o e => Heap.get?_push_of_some _ e, turn_tuple a _, ⟨_, Heap.get?_push_size _ rfl, rfl, rfl⟩, fun b hb => ?_, q⟩
    obtain rfl : b = s1.heap.objs.size := by simpa using hb
    exact I1.fpOk (Nat.le_refl _) (I1.hok.fresh (Nat.le_refl _))
def wSeqA (ta : TD) : TID := fun ρ g Q W => ta ρ g (fun r g1 => seqOf g1 r fun ds gd => Q ds gd g1) W
def wEnumA (tr : TAD) : TID := fun ρ g Q W => tr ρ g (fun ds g1 => match ds with | [d] => seqOf g1 (.v d) fun xs gd => Q (enumD 0 xs) gd g1 | _ => False) W
section
variable {X : Cx} {e tg : Expr} {ta : TD} {tr : TAD} {E : L2.St → XK}
theorem q_seqA (h : PI X tg e (iSeqA X.K (LE X.K E ta))) : PI X tg e (LI X.K E (wSeqA ta)) :=
  PI.of h fun σ H R ⟨B, ρ, g, Q0, W0, rs, rg, t, c, xc⟩ =>
    ⟨B, ρ, g, _, W0, rs, rg, t, fun r g1 x H1 q rd rg1 f1 _ => by
      obtain ⟨xs, ⟨hl, hq⟩ | ⟨hl, hq⟩⟩ := q.cases
      · obtain ⟨a, vs, rfl, ha, rv, io⟩ := lstOf.cases rg1 rd hl
        exact ⟨a, rfl, .inl ⟨⟨vs, .inl (.inl ha)⟩, c xs _ g1 _ H1 hq io rg1 f1⟩⟩
      · obtain ⟨a, vs, rfl, ha, rv⟩ := hl.rep rd
        exact ⟨a, rfl, .inr ⟨⟨vs, sqT_un ha⟩, c xs _ g1 _ H1 hq (itT ha rg1 rv) rg1 f1⟩⟩, xc⟩
theorem q_enumA (h : PI X tg e (iEnA X.K (LA X.K E tr))) : PI X tg e (LI X.K E (wEnumA tr)) :=
  PI.of h fun σ H R ⟨B, ρ, g, Q0, W0, rs, rg, t, c, xc⟩ => ⟨B, ρ, g, _, W0, rs, rg, t, fun ds g1 vs H1 hq rd w1 f1 => by
    match ds, rd, hq with
    | [d], .cons r .nil, q =>
      obtain ⟨xs, ⟨hl, hq⟩ | ⟨hl, hq⟩⟩ := seqOf.cases q
      · obtain ⟨a, ws, rfl, ha, rv, io⟩ := lstOf.cases (r := .v d) w1 r hl
        exact ⟨a, ws, rfl, .inl ⟨.inl (.inl ha), c _ _ g1 _ H1 hq (itEL io) w1 f1⟩⟩
      · obtain ⟨a, ws, rfl, ha, rv⟩ := tupOf.rep (r := .v d) r hl
        exact ⟨a, ws, rfl, .inr ⟨sqT_un ha, c _ _ g1 _ H1 hq (itET ha w1 rv) w1 f1⟩⟩, xc⟩
end
end G3
/-! G3: zip of a tuple with a list, by the kit's zip over iterators of any kind -/
namespace G3
open PySem L2
/-- a tuple's items, a list's as it stands, in new pairs -/
def ItzM (K : PySem.W.Frag) (a b : Addr) : It where
  go i H := ∃ (xs ys : List V) (x y : V), SqT K H a xs ∧ SqL K H b ys ∧ xs[i]? = some x ∧ ys[i]? = some y
  yld i H v H' := ∃ T x y, v = .ref T ∧ H T = none ∧ H' = upd H T (.tup [x, y]) ∧ (∀ xs, SqT K H a xs → xs[i]? = some x) ∧ ∀ ys, SqL K H b ys → ys[i]? = some y
  stop i H := ∃ xs ys : List V, SqT K H a xs ∧ SqL K H b ys ∧ i ≤ xs.length ∧ i ≤ ys.length ∧ (i = xs.length ∨ i = ys.length)
theorem turn_zipM {P : Program} {w : World} {K : PySem.W.Frag} {elts : List Expr} {kk : Nat} {tpos : Pos} {a b z TI TO i1 i2 : Addr} (S : ZipSep2 z TI TO i1 i2 [i1, a] [i2, b]) :
    Turn P w K (.Tuple elts kk tpos) (ItzM K a b) [z, TI, TO, i1, i2] z (fun i h => IsZip h z TI TO .none ∧ IsTupOf2 h TI (.ref i1) (.ref i2) ∧ (∃ x y, IsTupOf2 h TO x y) ∧ h.IsTupleIter i1 a i ∧ h.IsListIter i2 b i) where
  mem := by simp
  obj := by
    rintro i h ⟨hz, hTI, ⟨x, y, hTO⟩, ⟨o1, e1, _, d1⟩, ⟨o2, e2, _, d2⟩⟩ c hc
    rcases (show c = z ∨ c = TI ∨ c = TO ∨ c = i1 ∨ c = i2 by simpa using hc) with rfl | rfl | rfl | rfl | rfl
    · exact ⟨_, hz, fun v q => nomatch q⟩
    · exact ⟨_, hTI, fun v q => nomatch q⟩
    · exact ⟨_, hTO, fun v q => nomatch q⟩
    · exact ⟨o1, e1, fun v q => by rw [d1] at q; cases q⟩
    · exact ⟨o2, e2, fun v q => by rw [d2] at q; cases q⟩
  keep := by
    rintro i h h' ⟨hz, hTI, ⟨x, y, hTO⟩, h1, h2⟩ k
    exact ⟨k z (by simp) _ hz, k TI (by simp) _ hTI, ⟨x, y, k TO (by simp) _ hTO⟩, h1.at fun o q => k i1 (by simp) o q, h2.at fun o q => k i2 (by simp) o q⟩
  item := by
    intro X hP hw hK hc i pins s σ H E I hf st hg
    subst hP hw hK
    obtain ⟨hz, hTI, ⟨x0, y0, hTO⟩, h1, h2⟩ := st
    obtain ⟨xs, ys, x, y, hqx, hqy, hx, hy⟩ := hg
    obtain ⟨its, rv, p, _⟩ := I.tuple hqx
    obtain ⟨its2, rv2, p2, _⟩ := I.list hqy
    obtain ⟨u, hu, ru⟩ := rv.get hx
    obtain ⟨u2, hu2, ru2⟩ := rv2.get hy
    have hzl : z < s.heap.objs.size := Heap.lt_size hz
    have pT : s.heap.IsTuple a its.toArray := p
    have ha1 : a ≠ i1 := fun e => by
      obtain ⟨o, e1, c1, _⟩ := id h1
      obtain ⟨o', e2, c2, _⟩ := id pT
      rw [e] at e2; rw [e1] at e2; cases e2; rw [c1] at c2; simp at c2
    have hb2 : b ≠ i2 := fun e => by
      obtain ⟨o, e1, c1, _⟩ := id h2
      obtain ⟨o', e2, c2, _⟩ := id p2.isList
      rw [e] at e2; rw [e1] at e2; cases e2; rw [c1] at c2; simp at c2
    have n1 : i < its.toArray.size := by rw [List.size_toArray]; exact (List.getElem?_eq_some_iff.mp hu).1
    have n2 : i < its2.toArray.size := by rw [List.size_toArray]; exact (List.getElem?_eq_some_iff.mp hu2).1
    refine wpAny_pyNext_zipD2_item S (Draws.tuple (A := X.A.in1) (I.ok.hd hc) i1 a ha1 its.toArray) (Draws.list (A := X.A.in1) (I.ok.hd hc) i2 b hb2 its2.toArray) hz hTI hTO ⟨h1, pT⟩ ⟨h2, p2.isList⟩ n1 n2 ?_
    intro w1 w2 h' tk hw1 hw2 z' TO' h1' h2' hT hsz hk
    obtain rfl : w1 = u := by
      have : its[i]? = some w1 := by simpa using hw1
      rw [hu] at this; cases this; rfl
    obtain rfl : w2 = u2 := by
      have : its2[i]? = some w2 := by simpa using hw2
      rw [hu2] at this; cases this; rfl
    refine ⟨_, rfl, wpAny_letOwnedTupleGo_zip (s := { s with heap := h', toks := tk }) z' fun h'' z'' sb => ?_⟩
    have hT2 : h''.get? s.heap.objs.size = some { cls := .type "tuple", data := .seq #[w1, w2] } := (sb.2 _ (Nat.ne_of_gt hzl)).trans hT
    have new : ObjOk X.prog X.w (upd H s.heap.objs.size (.tup [x, y])) h'' s.heap.objs.size (.tup [x, y]) :=
      ⟨by show 2 ≤ sizeLine; decide, [w1, w2], .cons ru (.cons ru2 .nil), ⟨_, hT2, rfl, _, rfl⟩⟩
    have I1 : Inv X pins σ (upd H s.heap.objs.size (.tup [x, y])) { s with heap := h'', toks := tk } := by
      refine I.turnedNew (ch := [z, TI, TO, i1, i2]) (fun c o hb q => ?_) hf (Nat.le_refl _) new
      have n := fun q' => hb q'
      have k1 : c ≠ z := fun q' => n (by simp [q'])
      have k2 : c ≠ TO := fun q' => n (by simp [q'])
      have k3 : c ≠ i1 := fun q' => n (by simp [q'])
      have k4 : c ≠ i2 := fun q' => n (by simp [q'])
      exact (sb.2 c k1).trans (hk c o k1 k2 k3 k4 q)
    refine ⟨.ref s.heap.objs.size, _, I1, rfl, ⟨_, x, y, rfl, I.hok.fresh (Nat.le_refl _), rfl, fun l hl => by rw [I.tuple_inj hl hqx]; exact hx, fun l hl => by rw [I.list_inj hl hqy]; exact hy⟩, ⟨z'', ?_, ⟨w1, w2, ?_⟩, ?_, ?_⟩, fun c hcm => ?_⟩
    · exact (sb.2 _ S.TIz).trans (hk _ _ S.TIz S.TITO S.TIi1 S.TIi2 hTI)
    · exact (sb.2 _ S.TOz).trans TO'
    · exact h1'.1.at fun o q => (sb.2 _ (Ne.symm S.zi1)).trans q
    · exact h2'.1.at fun o q => (sb.2 _ (Ne.symm S.zi2)).trans q
    · have hlt : c < s.heap.objs.size := by
        rcases (show c = z ∨ c = TI ∨ c = TO ∨ c = i1 ∨ c = i2 by simpa using hcm) with rfl | rfl | rfl | rfl | rfl
        · exact hzl
        · exact Heap.lt_size hTI
        · exact Heap.lt_size hTO
        · obtain ⟨_, e1, _⟩ := h1; exact Heap.lt_size e1
        · obtain ⟨_, e2, _⟩ := h2; exact Heap.lt_size e2
      rw [upd_ne (Nat.ne_of_lt hlt)]
      exact (hf c hcm).1
  done := by
    intro X hP hw hK hc i pins s σ H E I hf st hg
    subst hP hw hK
    obtain ⟨hz, hTI, ⟨x0, y0, hTO⟩, h1, h2⟩ := st
    obtain ⟨xs, ys, hqx, hqy, hle1, hle2, hend⟩ := hg
    obtain ⟨its, rv, p, _⟩ := I.tuple hqx
    obtain ⟨its2, rv2, p2, _⟩ := I.list hqy
    have pT : s.heap.IsTuple a its.toArray := p
    have ha1 : a ≠ i1 := fun e => by
      obtain ⟨o, e1, c1, _⟩ := id h1
      obtain ⟨o', e2, c2, _⟩ := id pT
      rw [e] at e2; rw [e1] at e2; cases e2; rw [c1] at c2; simp at c2
    have hb2 : b ≠ i2 := fun e => by
      obtain ⟨o, e1, c1, _⟩ := id h2
      obtain ⟨o', e2, c2, _⟩ := id p2.isList
      rw [e] at e2; rw [e1] at e2; cases e2; rw [c1] at c2; simp at c2
    have l1 : its.toArray.size = xs.length := by rw [List.size_toArray]; exact rv.length.symm
    have l2 : its2.toArray.size = ys.length := by rw [List.size_toArray]; exact rv2.length.symm
    refine wpAny_pyNext_zipD2_end S (Draws.tuple (A := X.A.in1) (I.ok.hd hc) i1 a ha1 its.toArray) (Draws.list (A := X.A.in1) (I.ok.hd hc) i2 b hb2 its2.toArray) hz hTI hTO ⟨h1, pT⟩ ⟨h2, p2.isList⟩ (by omega) (by omega) (by rw [l1, l2]; exact hend) ?_
    intro h' tk hk
    refine ⟨rfl, ?_⟩
    refine I.turnedL (ch := [z, TI, TO, i1, i2]) (fun c o hb q => ?_) hf
    exact hk c o (fun q' => hb (by simp [q'])) (fun q' => hb (by simp [q'])) (fun q' => hb (by simp [q'])) (fun q' => hb (by simp [q'])) q
  self := by
    rintro A i s Q E ⟨hz, _⟩ h
    exact wpAny_pyIter_zip hz h
/-- two lists, two tuples, a tuple and a list -/
def iZipB (K : PySem.W.Frag) (ta : TA) : TI := fun σ H R => ta σ H fun vs H1 => ∃ a b xs ys, vs = [.ref a, .ref b] ∧ ((SqL K H1 a xs ∧ SqL K H1 b ys ∧ R (Itz K a b) H1) ∨ (SqT K H1 a xs ∧ SqT K H1 b ys ∧ R (RZ.ItzT K a b) H1) ∨ (SqT K H1 a xs ∧ SqL K H1 b ys ∧ R (ItzM K a b) H1))
theorem pi_zipB {X : Cx} {e e2 : Expr} {ta : TA} {p pos tpos : Pos} {elts : List Expr} {kk : Nat} (hg : Gl X "zip") (hm : X.mg "zip" = none) (ha : PA X [e, e2] ta)
    (hs : starEach [e, e2] X.env = (false, eval e X.env) :: starEach [e2] X.env := by rfl) (hpl : (backTo pos (starEach [e2] X.env)).any (·.1) = false := by rfl) :
    PI X (.Tuple elts kk tpos) (.Call (.Name "zip" p) [e, e2] [] pos) (iZipB X.K ta) := by
  constructor
  intro pins s σ H R I h
  refine PyProof.Rows.Call_ (ld_blt I hg hm PyProof.Rows.boot_zip (PyProof.Rows.callWith_type1 (thn (ha.run pos pins s σ H _ I h) ?_) hs hpl))
  rintro us s1 ⟨vs, H1, I1, r1, a, b, xs, ys, rfl, q⟩
  match us, r1 with
  | [_, _], .cons rfl (.cons rfl .nil) =>
    have five : ∀ c, c ∈ [s1.heap.objs.size + 4, s1.heap.objs.size + 2, s1.heap.objs.size + 3, s1.heap.objs.size, s1.heap.objs.size + 1] → FpOk X pins H1 c := fun c hcm => by
      have hle : s1.heap.objs.size ≤ c := by
        rcases (show c = s1.heap.objs.size + 4 ∨ c = s1.heap.objs.size + 2 ∨ c = s1.heap.objs.size + 3 ∨ c = s1.heap.objs.size ∨ c = s1.heap.objs.size + 1 by simpa using hcm) with z | z | z | z | z <;> omega
      exact I1.fpOk hle (I1.hok.fresh hle)
    rcases q with ⟨hqx, hqy, q⟩ | ⟨hqx, hqy, q⟩ | ⟨hqx, hqy, q⟩
    · obtain ⟨its, rv, p1, _⟩ := I1.list hqx
      obtain ⟨its2, rv2, p2, _⟩ := I1.list hqy
      refine call_zip_2 p1.isList p2.isList fun h' hz hTI hTO h1 h2 _ hk => wpAny_pyIter_zip hz ?_
      exact ⟨_, _, _, _, H1, rfl, I1.kept (t' := s1.toks) hk, turn_zip (PySem.W.ktu_apart s1.heap.objs.size a b p1.lt p2.lt), ⟨hz, hTI, ⟨_, _, hTO⟩, h1, h2⟩, five, q⟩
    · obtain ⟨its, rv, p1, _⟩ := I1.tuple hqx
      obtain ⟨its2, rv2, p2, _⟩ := I1.tuple hqy
      obtain ⟨o1, ho1, _⟩ := id p1
      obtain ⟨o2, ho2, _⟩ := id p2
      refine RZ.call_zipT (show s1.heap.IsTuple a its.toArray from p1) (show s1.heap.IsTuple b its2.toArray from p2) fun h' hz hTI hTO h1 h2 _ hk => wpAny_pyIter_zip hz ?_
      exact ⟨_, _, _, _, H1, rfl, I1.kept (t' := s1.toks) hk, RZ.turn_zipT (PySem.W.ktu_apart s1.heap.objs.size a b (Heap.lt_size ho1) (Heap.lt_size ho2)), ⟨hz, hTI, ⟨_, _, hTO⟩, h1, h2⟩, five, q⟩
    · obtain ⟨its, rv, p1, _⟩ := I1.tuple hqx
      obtain ⟨its2, rv2, p2, _⟩ := I1.list hqy
      obtain ⟨o1, ho1, _⟩ := id p1
      have hla : ∀ c ∈ [a], c < s1.heap.objs.size := fun c hc => by rw [List.mem_singleton.mp hc]; exact Heap.lt_size ho1
      have hlb : ∀ c ∈ [b], c < s1.heap.objs.size := fun c hc => by rw [List.mem_singleton.mp hc]; exact p2.lt
      refine zip_begins2 (begins_tuple a its.toArray) (begins_list b its2.toArray) (show s1.heap.IsTuple a its.toArray from p1) p2.isList fun h' hz hTI hTO h1 h2 _ hk => wpAny_pyIter_zip hz ?_
      exact ⟨_, _, _, _, H1, rfl, I1.kept (t' := s1.toks) hk, turn_zipM (zip_sep2 hla hlb), ⟨hz, hTI, ⟨_, _, hTO⟩, ⟨_, h1, rfl, rfl⟩, ⟨_, h2, rfl, rfl⟩⟩, five, q⟩
end G3
/-! G3o: zip, range with a step, reversed lists; the least and the greatest of a tuple -/
namespace G3
open PySem PySem.Spec PyProof.Rows L2 PySem.W
/-! ### zip -/
def zipD (xs ys : List D) : List D := (xs.zip ys).map fun p => .tup [p.1, p.2]
theorem zipD_len {xs ys : List D} : (zipD xs ys).length = min xs.length ys.length := by unfold zipD; rw [List.length_map, List.length_zip]
theorem zipD_get {xs ys : List D} {i : Nat} {d : D} (h : (zipD xs ys)[i]? = some d) : ∃ x y, xs[i]? = some x ∧ ys[i]? = some y ∧ d = .tup [x, y] := by
  unfold zipD at h
  rw [List.getElem?_map] at h
  cases e : (xs.zip ys)[i]? with
  | none => rw [e] at h; cases h
  | some p =>
    rw [e] at h; cases h
    obtain ⟨h1, h2⟩ := List.getElem?_zip_eq_some.mp e
    exact ⟨p.1, p.2, h1, h2, rfl⟩
theorem two_ok {K : PySem.W.Frag} {B : List Addr} {H : Hp} {g : GH} {v u : V} {d e : D} {T : Addr} (w : Vw K B H g) (r : Rep K (hide H B) g v d) (q : Rep K (hide H B) g u e) (hT : H T = none) :
    Rep K (hide (upd H T (.tup [v, u])) B) g (.ref T) (.tup [d, e]) ∧ Vw K B (upd H T (.tup [v, u])) g ∧ Fr H g (upd H T (.tup [v, u])) g := by
  obtain ⟨f, w', _⟩ := Fr.laidV (u := .tup [v, u]) hT w
  exact ⟨.tup (by rw [hide_out (w.new hT)]; exact upd_same) (.cons (r.fv w f) (.cons (q.fv w f) .nil)), w', f⟩
theorem itZ {K : PySem.W.Frag} {B : List Addr} {H0 : Hp} {g0 : GH} {a b : Addr} {xs ys : List D} {gd1 gd2 : GH → Prop} (i1 : ItOk K B H0 g0 (Itl K a) xs gd1) (i2 : ItOk K B H0 g0 (Itl K b) ys gd2) :
    ItOk K B H0 g0 (Itz K a b) (zipD xs ys) fun g => gd1 g ∧ gd2 g := by
  intro B' i H g sB nB w f ⟨q1, q2⟩
  obtain ⟨g1, s1⟩ := i1 B' i H g sB nB w f q1
  obtain ⟨g2, s2⟩ := i2 B' i H g sB nB w f q2
  refine ⟨fun d hd => ?_, fun hi => ?_⟩
  · obtain ⟨x, y, hx, hy, rfl⟩ := zipD_get hd
    obtain ⟨⟨vs, v, a1, a2⟩, y1⟩ := g1 x hx
    obtain ⟨⟨us, u, b1, b2⟩, y2⟩ := g2 y hy
    refine ⟨⟨vs, us, v, u, a1, b1, a2, b2⟩, ?_⟩
    rintro z H' ⟨T, p, q, rfl, hT, rfl, e1, e2⟩
    obtain ⟨r1, _, _⟩ := y1 p H ⟨rfl, e1⟩
    obtain ⟨r2, _, _⟩ := y2 q H ⟨rfl, e2⟩
    exact two_ok w r1 r2 hT
  · rw [zipD_len] at hi
    have side : ∀ {c : Addr} {zs : List D}, (∀ d, zs[i]? = some d → (Itl K c).go i H) → (i = zs.length → (Itl K c).stop i H) → i ≤ zs.length → ∃ vs, SqL K H c vs ∧ (i = zs.length → vs.length ≤ i) := by
      intro c zs hg hs hle
      by_cases e : i = zs.length
      · obtain ⟨vs, h1, h2⟩ := hs e
        exact ⟨vs, h1, fun _ => h2⟩
      · obtain ⟨vs, _, h1, _⟩ := hg _ (List.getElem?_eq_getElem (show i < zs.length by omega))
        exact ⟨vs, h1, fun z => absurd z e⟩
    obtain ⟨vs, h1, k1⟩ := side (c := a) (fun d h => (g1 d h).1) s1 (by omega)
    obtain ⟨us, h2, k2⟩ := side (c := b) (fun d h => (g2 d h).1) s2 (by omega)
    refine ⟨vs, us, h1, h2, ?_⟩
    by_cases e : i = xs.length
    · exact .inl (k1 e)
    · exact .inr (k2 (by omega))
theorem itZT {K : PySem.W.Frag} {B : List Addr} {H0 : Hp} {g0 : GH} {a b : Addr} {xs ys : List D} (i1 : ItOk K B H0 g0 (Itt K a) xs fun _ => True) (i2 : ItOk K B H0 g0 (Itt K b) ys fun _ => True) :
    ItOk K B H0 g0 (RZ.ItzT K a b) (zipD xs ys) fun _ => True := by
  intro B' i H g sB nB w f _
  obtain ⟨g1, s1⟩ := i1 B' i H g sB nB w f trivial
  obtain ⟨g2, s2⟩ := i2 B' i H g sB nB w f trivial
  refine ⟨fun d hd => ?_, fun hi => ?_⟩
  · obtain ⟨x, y, hx, hy, rfl⟩ := zipD_get hd
    obtain ⟨⟨vs, v, a1, a2⟩, y1⟩ := g1 x hx
    obtain ⟨⟨us, u, b1, b2⟩, y2⟩ := g2 y hy
    refine ⟨⟨vs, us, v, u, a1, b1, a2, b2⟩, ?_⟩
    rintro z H' ⟨T, p, q, rfl, hT, rfl, e1, e2⟩
    obtain ⟨r1, _, _⟩ := y1 p H ⟨rfl, e1⟩
    obtain ⟨r2, _, _⟩ := y2 q H ⟨rfl, e2⟩
    exact two_ok w r1 r2 hT
  · rw [zipD_len] at hi
    have side : ∀ {c : Addr} {zs : List D}, (∀ d, zs[i]? = some d → (Itt K c).go i H) → (i = zs.length → (Itt K c).stop i H) → i ≤ zs.length → ∃ vs, SqT K H c vs ∧ (i = zs.length → vs.length ≤ i) := by
      intro c zs hg hs hle
      by_cases e : i = zs.length
      · obtain ⟨vs, h1, h2⟩ := hs e
        exact ⟨vs, h1, fun _ => h2⟩
      · obtain ⟨vs, _, h1, _⟩ := hg _ (List.getElem?_eq_getElem (show i < zs.length by omega))
        exact ⟨vs, h1, fun z => absurd z e⟩
    obtain ⟨vs, h1, k1⟩ := side (c := a) (fun d h => (g1 d h).1) s1 (by omega)
    obtain ⟨us, h2, k2⟩ := side (c := b) (fun d h => (g2 d h).1) s2 (by omega)
    refine ⟨vs, us, h1, h2, ?_⟩
    by_cases e : i = xs.length
    · exact .inl (k1 e)
    · exact .inr (k2 (by omega))
/-- a list as it stands at each turn -/
theorem lstOf.now {K : PySem.W.Frag} {B : List Addr} {H : Hp} {g : GH} {v : V} {r : R} {ys : List D} (G : Vw K B H g) (h : Rep K (hide H B) g v r.fz) (l : lstOf g r ys) : ∃ b us0, v = .ref b ∧ H b = some (.lst us0) ∧
    ∀ B' H' g', (∀ b ∈ B, b ∈ B') → (∀ b ∈ B', b ∉ B → H b = none) → Vw K B' H' g' → Fr H g H' g' → gdOf r ys g' → ∃ us, SqL K H' b us ∧ Reps K (hide H' B') g' us ys := by
  match r, h, l with
  | .tl ds, .lst h k q, l =>
    cases l
    refine ⟨_, _, rfl, (of_hide h).1, fun B' H' g' _ n _ f _ => ?_⟩
    exact ⟨_, .inl (.inl (f.keep _ _ (of_hide h).1 k).1), q.more G f n⟩
  | .v (.lst ds), .lst h k q, l =>
    cases l
    refine ⟨_, _, rfl, (of_hide h).1, fun B' H' g' _ n _ f _ => ?_⟩
    exact ⟨_, .inl (.inl (f.keep _ _ (of_hide h).1 k).1), q.more G f n⟩
  | .v (.ref a), .ref _, l =>
    obtain ⟨u, hu, q⟩ := G.rg a _ l
    cases q with
    | lst q =>
      refine ⟨a, _, rfl, (of_hide hu).1, fun B' H' g' _ n w f hg => ?_⟩
      obtain ⟨u', hu', q'⟩ := w.rg a _ hg
      cases q' with
      | lst q' => exact ⟨_, .inl (.inl (of_hide hu').1), q'⟩
theorem itZM {K : PySem.W.Frag} {B : List Addr} {H0 : Hp} {g0 : GH} {a b : Addr} {vs : List V} {xs ys : List D} {gd : GH → Prop} (h : SqT K (hide H0 B) a vs) (G : Vw K B H0 g0) (r : Reps K (hide H0 B) g0 vs xs)
    (now : ∀ B' H' g', (∀ b ∈ B, b ∈ B') → (∀ b ∈ B', b ∉ B → H0 b = none) → Vw K B' H' g' → Fr H0 g0 H' g' → gd g' → ∃ us, SqL K H' b us ∧ Reps K (hide H' B') g' us ys) :
    ItOk K B H0 g0 (ItzM K a b) (zipD xs ys) gd := by
  intro B' i H g sB nB w f hg
  have h' : SqT K H a vs := sqT_un ((f.hd B).sqT G.rg h)
  have r' := r.more G f nB
  obtain ⟨us, hu, ru⟩ := now B' H g sB nB w f hg
  have l1 := r'.length
  have l2 := ru.length
  refine ⟨fun d hd => ?_, fun hi => ?_⟩
  · obtain ⟨x, y, hx, hy, rfl⟩ := zipD_get hd
    obtain ⟨v, hv, q1⟩ := r'.get hx
    obtain ⟨u, hu', q2⟩ := ru.get hy
    refine ⟨⟨vs, us, v, u, h', hu, hv, hu'⟩, ?_⟩
    rintro z H' ⟨T, p, q, rfl, hT, rfl, e1, e2⟩
    have e1 := e1 vs h'
    have e2 := e2 us hu
    rw [hv] at e1; cases e1
    rw [hu'] at e2; cases e2
    exact two_ok w q1 q2 hT
  · rw [zipD_len] at hi
    exact ⟨vs, us, h', hu, by omega, by omega, by omega⟩
/-- two lists, two tuples, a tuple and a list -/
def wZip (tr : TAD) : TID := fun ρ g Q W => tr ρ g (fun ds g1 => match ds with
  | [.tup xs, .tup ys] => Q (zipD xs ys) (fun _ => True) g1
  | [.tup xs, e] => ∃ ys, lstOf g1 (.v e) ys ∧ Q (zipD xs ys) (gdOf (.v e) ys) g1
  | [d, e] => ∃ xs ys, lstOf g1 (.v d) xs ∧ lstOf g1 (.v e) ys ∧ Q (zipD xs ys) (fun g' => gdOf (.v d) xs g' ∧ gdOf (.v e) ys g') g1
  | _ => False) W
section
variable {X : Cx} {e tg : Expr} {tr : TAD} {E : L2.St → XK}
theorem q_zip (h : PI X tg e (iZipB X.K (LA X.K E tr))) : PI X tg e (LI X.K E (wZip tr)) :=
  PI.of h fun σ H R ⟨B, ρ, g, Q0, W0, rs, rg, t, c, xc⟩ => ⟨B, ρ, g, _, W0, rs, rg, t, fun ds g1 vs H1 hq rd w1 f1 => by
    dsimp only at hq
    split at hq
    · match rd with
      | .cons r1 (.cons r2 .nil) =>
        obtain ⟨a, ws, rfl, ha, rv⟩ := tupOf.rep (r := .v (.tup _)) r1 rfl
        obtain ⟨b, us, rfl, hb, ru⟩ := tupOf.rep (r := .v (.tup _)) r2 rfl
        exact ⟨a, b, ws, us, rfl, .inr (.inl ⟨sqT_un ha, sqT_un hb, c _ _ g1 _ H1 hq (itZT (itT ha w1 rv) (itT hb w1 ru)) w1 f1⟩)⟩
    · rename_i xs d2 _
      obtain ⟨ys, hy, hq⟩ := hq
      match rd with
      | .cons r1 (.cons r2 .nil) =>
        obtain ⟨a, ws, rfl, ha, rv⟩ := tupOf.rep (r := .v (.tup _)) r1 rfl
        obtain ⟨b, us0, rfl, hb, now⟩ := lstOf.now (r := .v _) w1 r2 hy
        exact ⟨a, b, ws, us0, rfl, .inr (.inr ⟨sqT_un ha, .inl (.inl hb), c _ _ g1 _ H1 hq (itZM ha w1 rv now) w1 f1⟩)⟩
    · rename_i d d2 _ _
      obtain ⟨xs, ys, hx, hy, hq⟩ := hq
      match rd with
      | .cons r1 (.cons r2 .nil) =>
        obtain ⟨a, ws, rfl, ha, rv, io1⟩ := lstOf.cases (r := .v _) w1 r1 hx
        obtain ⟨b, us, rfl, hb, ru, io2⟩ := lstOf.cases (r := .v _) w1 r2 hy
        exact ⟨a, b, ws, us, rfl, .inl ⟨.inl (.inl ha), .inl (.inl hb), c _ _ g1 _ H1 hq (itZ io1 io2) w1 f1⟩⟩
    · exact hq.elim, xc⟩
end
/-! ### the least, the greatest of a tuple of whole numbers -/
theorem foldl_min : ∀ (ns : List Int) (n : Int), ns.foldl min n ∈ n :: ns ∧ ∀ y ∈ n :: ns, ns.foldl min n ≤ y
  | [], n => by simp
  | k :: ns, n => by
    obtain ⟨h1, h2⟩ := foldl_min ns (min n k)
    refine ⟨?_, fun y hy => ?_⟩
    · rw [List.foldl_cons]
      rcases List.mem_cons.mp h1 with e | e
      · rw [e]
        rcases Int.min_def n k ▸ (by split <;> simp : (if n ≤ k then n else k) = n ∨ (if n ≤ k then n else k) = k) with e | e <;> rw [e] <;> simp
      · simp [e]
    · rw [List.foldl_cons]
      have := h2 (min n k) List.mem_cons_self
      rcases List.mem_cons.mp hy with e | hy
      · rw [e]; omega
      · rcases List.mem_cons.mp hy with e | hy
        · rw [e]; omega
        · exact h2 y (List.mem_cons_of_mem _ hy)
theorem foldl_max : ∀ (ns : List Int) (n : Int), ns.foldl max n ∈ n :: ns ∧ ∀ y ∈ n :: ns, y ≤ ns.foldl max n
  | [], n => by simp
  | k :: ns, n => by
    obtain ⟨h1, h2⟩ := foldl_max ns (max n k)
    refine ⟨?_, fun y hy => ?_⟩
    · rw [List.foldl_cons]
      rcases List.mem_cons.mp h1 with e | e
      · rw [e]
        rcases Int.max_def n k ▸ (by split <;> simp : (if n ≤ k then k else n) = n ∨ (if n ≤ k then k else n) = k) with e | e <;> rw [e] <;> simp
      · simp [e]
    · rw [List.foldl_cons]
      have := h2 (max n k) List.mem_cons_self
      rcases List.mem_cons.mp hy with e | hy
      · rw [e]; omega
      · rcases List.mem_cons.mp hy with e | hy
        · rw [e]; omega
        · exact h2 y (List.mem_cons_of_mem _ hy)
theorem reps_intsO {K : PySem.W.Frag} {H : Hp} {g : GH} : ∀ {bs : List Int} {vs : List V}, Reps K H g vs (bs.map .int) → vs = bs.map V.int
  | [], _, .nil => rfl
  | b :: bs, _, .cons r t => by rw [int_of r, reps_intsO t]; rfl
section
variable {X : Cx}
theorem reads_ints {h : Heap} : ∀ {its : List Value} {ns : List Int}, Vals (ns.map V.int) its → ∃ as, ReadsAll h its (ns.map PyData.int) as
  | [], [], _ => ⟨_, .nil⟩
  | _ :: _, [], r => nomatch r
  | [], _ :: _, r => nomatch r
  | u :: us, n :: ns, .cons r t => by
    obtain ⟨tk, rfl⟩ := r
    obtain ⟨as, q⟩ := reads_ints (h := h) t
    exact ⟨_, .cons (.int n tk) q⟩
theorem min_tup {pins : List (Addr × Obj)} {σ : L2.St} {H : Hp} {s : Shared} {Q : VK} {a : Addr} {n : Int} {ns : List Int} (I : Inv X pins σ H s) (hc : X.calm = true) (units : X.A.units + 2 < cLine) (hs : SqT X.K H a ((n :: ns).map V.int)) (q : Q (.int (ns.foldl min n)) H) :
    wpAny (model X.prog X.w) X.A (call (.builtin "min") [.ref a]) (EP X pins σ Q) X.xe s := by
  obtain ⟨its, rv, tl, hz⟩ := I.tuple hs
  obtain ⟨as, rs⟩ := reads_ints (h := s.heap) (ns := n :: ns) rv
  refine min_tuple_data (vs := its.toArray) (x := .int n) (xs := ns.map .int) (I.ok.hd hc) tl (by simpa using rs) (alikeAll_datum (n :: ns)) ?_ fun i v h' tk bs _ r k => ?_
  · have : PyData.depthAll ((n :: ns).map PyData.int) = 0 := by
      have : ∀ ms : List Int, PyData.depthAll (ms.map PyData.int) = 0 := by
        intro ms
        induction ms with
        | nil => rfl
        | cons m ms ih => rw [List.map_cons, PyData.depthAll, ih]; rfl
      exact this _
    rw [List.map_cons] at this
    rw [this]; omega
  · rw [minD_ints] at r
    cases r
    exact ⟨.int _, H, I.kept k, ⟨_, rfl⟩, q⟩
theorem max_tup {pins : List (Addr × Obj)} {σ : L2.St} {H : Hp} {s : Shared} {Q : VK} {a : Addr} {n : Int} {ns : List Int} (I : Inv X pins σ H s) (hc : X.calm = true) (units : X.A.units + 2 < cLine) (hs : SqT X.K H a ((n :: ns).map V.int)) (q : Q (.int (ns.foldl max n)) H) :
    wpAny (model X.prog X.w) X.A (call (.builtin "max") [.ref a]) (EP X pins σ Q) X.xe s := by
  obtain ⟨its, rv, tl, hz⟩ := I.tuple hs
  obtain ⟨as, rs⟩ := reads_ints (h := s.heap) (ns := n :: ns) rv
  refine max_tuple_data (vs := its.toArray) (x := .int n) (xs := ns.map .int) (I.ok.hd hc) tl (by simpa using rs) (alikeAll_datum (n :: ns)) ?_ fun i v h' tk bs _ r k => ?_
  · have : PyData.depthAll ((n :: ns).map PyData.int) = 0 := by
      have : ∀ ms : List Int, PyData.depthAll (ms.map PyData.int) = 0 := by
        intro ms
        induction ms with
        | nil => rfl
        | cons m ms ih => rw [List.map_cons, PyData.depthAll, ih]; rfl
      exact this _
    rw [List.map_cons] at this
    rw [this]; omega
  · rw [maxD_ints] at r
    cases r
    exact ⟨.int _, H, I.kept k, ⟨_, rfl⟩, q⟩
/-- the least, the greatest of a list or a tuple -/
def rBest (K : PySem.W.Frag) (f : Int → Int → Int) : List V → Hp → VK → Prop := fun vs H Q => ∃ (a : Addr) (n : Int) (ns : List Int), vs = [.ref a] ∧ (SqL K H a ((n :: ns).map V.int) ∨ SqT K H a ((n :: ns).map V.int)) ∧ Q (.int (ns.foldl f n)) H
theorem cr_minA (hc : X.calm = true) (units : X.A.units + 2 < cLine) : CallR X (.builtin "min") (rBest X.K min) := by
  intro pins s σ H vs us Q I r h
  obtain ⟨a, n, ns, rfl, hs | hs, q⟩ := h
  · refine cr_min hc pins s σ H _ us Q I r ⟨a, n :: ns, rfl, hs, by simp, fun m hm hall => ?_⟩
    have sp := foldl_min ns n
    rw [show m = ns.foldl min n from Int.le_antisymm (hall _ sp.1) (sp.2 m hm)]
    exact q
  · rw [Vals.ref1 r]
    exact min_tup I hc units hs q
theorem cr_maxA (hc : X.calm = true) (units : X.A.units + 2 < cLine) : CallR X (.builtin "max") (rBest X.K max) := by
  intro pins s σ H vs us Q I r h
  obtain ⟨a, n, ns, rfl, hs | hs, q⟩ := h
  · refine cr_max hc pins s σ H _ us Q I r ⟨a, n :: ns, rfl, hs, by simp, fun m hm hall => ?_⟩
    have sp := foldl_max ns n
    rw [show m = ns.foldl max n from Int.le_antisymm (sp.2 m hm) (hall _ sp.1)]
    exact q
  · rw [Vals.ref1 r]
    exact max_tup I hc units hs q
def fBest (f : Int → Int → Int) : List D → GH → QK → Prop := fun ds g Q => match ds with
  | [d] => seqOf g (.v d) fun xs _ => ∃ (n : Int) (ns : List Int), xs = (n :: ns).map .int ∧ Q (.v (.int (ns.foldl f n))) g
  | _ => False
theorem ok_best {K : PySem.W.Frag} {f : Int → Int → Int} : RNOk K (fBest f) (rBest K f) := fun xs ds B H g Q0 Q r w q c => by
  unfold fBest at q
  split at q
  · match r with
    | .cons r .nil =>
      obtain ⟨ys, ⟨hl, n, ns, rfl, q⟩ | ⟨hl, n, ns, rfl, q⟩⟩ := seqOf.cases q
      · obtain ⟨a, vs, rfl, ha, rv⟩ := lstOf.rep w.rg (r := .v _) r hl
        obtain rfl := reps_intsO rv
        exact ⟨a, n, ns, rfl, .inl (.inl (.inl (of_hide ha).1)), c.here q (.int _) w⟩
      · obtain ⟨a, vs, rfl, ha, rv⟩ := tupOf.rep (r := .v _) r hl
        obtain rfl := reps_intsO rv
        exact ⟨a, n, ns, rfl, .inr (sqT_un ha), c.here q (.int _) w⟩
  · exact q.elim
end
end G3
/-! G3q: dicts that are tracked, keys whole numbers and texts; sorted of a dict; range with a step -/
namespace G3
open PySem PySem.Spec PyProof.Rows L2
def dKey : D → Option Key
  | .int i => some (.inl i)
  | .str x => some (.inr x)
  | _ => none
section
variable {κ : Type} [DecidableEq κ]
def lookD (kvs : List (κ × D)) (k : κ) : Option D := (kvs.find? fun kv => decide (kv.1 = k)).map (·.2)
def putD (kvs : List (κ × D)) (k : κ) (d : D) : List (κ × D) :=
  if (kvs.any fun kv => decide (kv.1 = k)) = true then kvs.map (fun kv => if kv.1 = k then (kv.1, d) else kv) else kvs ++ [(k, d)]
theorem lookD_nil {k : κ} : lookD ([] : List (κ × D)) k = none := rfl
theorem lookD_pos {p : κ × D} {r : List (κ × D)} {k : κ} (e : p.1 = k) : lookD (p :: r) k = some p.2 := by simp [lookD, List.find?_cons, e]
theorem lookD_neg {p : κ × D} {r : List (κ × D)} {k : κ} (e : ¬ p.1 = k) : lookD (p :: r) k = lookD r k := by simp [lookD, List.find?_cons, e]
section
variable {K : PySem.W.Frag} {H : Hp} {g : GH}
theorem DRep.look {r : List (κ × V)} {s : List (κ × D)} (h : DRep K H g r s) (k : κ) : (valV r k = none ∧ lookD s k = none) ∨ ∃ v d, valV r k = some v ∧ lookD s k = some d ∧ Rep K H g v d := by
  induction h with
  | nil => exact .inl ⟨rfl, rfl⟩
  | @cons j v d r s q t ih =>
    by_cases e : j = k
    · exact .inr ⟨v, d, valV_pos (p := (j, v)) e, lookD_pos (p := (j, d)) e, q⟩
    · rw [valV_neg (p := (j, v)) e, lookD_neg (p := (j, d)) e]
      exact ih
theorem DRep.len {r : List (κ × V)} {s : List (κ × D)} (h : DRep K H g r s) : r.length = s.length := by
  induction h with
  | nil => rfl
  | cons _ _ ih => simp [ih]
theorem DRep.keys {r : List (κ × V)} {s : List (κ × D)} (h : DRep K H g r s) : r.map (·.1) = s.map (·.1) := by
  induction h with
  | nil => rfl
  | cons _ _ ih => simp [ih]
theorem DRep.anyk {r : List (κ × V)} {s : List (κ × D)} (h : DRep K H g r s) (k : κ) : (r.any fun kv => decide (kv.1 = k)) = (s.any fun kv => decide (kv.1 = k)) := by
  induction h with
  | nil => rfl
  | cons _ _ ih => simp [ih]
theorem DRep.repl {r : List (κ × V)} {s : List (κ × D)} (h : DRep K H g r s) (k : κ) {v : V} {d : D} (q : Rep K H g v d) : DRep K H g (r.map fun kv => if kv.1 = k then (kv.1, v) else kv) (s.map fun kv => if kv.1 = k then (kv.1, d) else kv) := by
  induction h with
  | nil => exact .nil
  | @cons j w e r s x t ih =>
    by_cases z : j = k
    · simp only [List.map_cons, z, if_true]
      exact .cons q ih
    · simp only [List.map_cons, z, if_false]
      exact .cons x ih
theorem DRep.snoc {r : List (κ × V)} {s : List (κ × D)} (h : DRep K H g r s) (k : κ) {v : V} {d : D} (q : Rep K H g v d) : DRep K H g (r ++ [(k, v)]) (s ++ [(k, d)]) := by
  induction h with
  | nil => exact .cons q .nil
  | cons x t ih => exact .cons x ih
theorem DRep.put {r : List (κ × V)} {s : List (κ × D)} (h : DRep K H g r s) (k : κ) {v : V} {d : D} (q : Rep K H g v d) : DRep K H g (putK r k v) (putD s k d) := by
  unfold putK putD
  rw [h.anyk k]
  split
  · exact h.repl k q
  · exact h.snoc k q
end
end
theorem dKey_rep {K : PySem.W.Frag} {H : Hp} {g : GH} {v : V} {d : D} {k : Key} (r : Rep K H g v d) (h : dKey d = some k) : v = kV k := by
  cases r with
  | int i => cases h; rfl
  | str x => cases h; rfl
  | _ => cases h
theorem trk_dk {K : PySem.W.Frag} {B : List Addr} {H : Hp} {g : GH} {p : Addr} {xs : List (Key × D)} (w : Vw K B H g) (h : g p = some (.dk xs)) : ∃ vs, H p = some (.dK vs) ∧ DRep K (hide H B) g vs xs := by
  obtain ⟨u, hu, r⟩ := w.rg p _ h
  cases r with
  | dK r => exact ⟨_, (of_hide hu).1, r⟩
/-- a new object that is tracked from the start -/
theorem Cont.newO {K : PySem.W.Frag} {B : List Addr} {H : Hp} {g : GH} {Q0 : QK} {Q : VK} {u : HO} {o : DO} {p : Addr} (c : Cont K B H g Q0 Q) (w : Vw K B H g) (hp : H p = none) (r : RepO K (hide H B) g u o) (q : g p = none → Q0 (.v (.ref p)) (gup g p o)) : Q (.ref p) (upd H p u) := by
  obtain ⟨f, w', gp⟩ := Fr.laidV (u := u) hp w
  refine c _ _ _ _ (q gp) (.ref p) ⟨fun b m => w'.dom b m, ?_⟩ (f.track hp) .no
  refine RepG.track (H := hide (upd H p u) B) (H0 := hide H B) (by rw [hide_out (w.new hp)]; exact upd_same) (fun b z h => ?_) w.rg r
  exact ⟨ne_of_none h (w.hn hp), by rw [hide_upd (w.new hp), upd_ne (ne_of_none h (w.hn hp))]; exact h⟩

/-! ### in a dict, of a dict -/
def rDIn (neg : Bool) : R2 := fun y x H Q => ∃ a o, x = .ref a ∧ DGet H a y o ∧ Q (.bl (neg ^^ o.isSome)) H
theorem op_dIn {X : Cx} (hu : X.A.units + 1 < cLine) : OpR X (compareOp .In) (rDIn false) := fun pins s σ H x y v u Q I rx ry ⟨a, o, e, g, q⟩ => by
  subst e
  obtain rfl : u = Value.ref a := ry
  exact d_in hu I g rx fun s' I' => ⟨.bl o.isSome, H, I', rfl, by rw [Bool.false_xor] at q; exact q⟩
theorem op_dNin {X : Cx} (hu : X.A.units + 1 < cLine) : OpR X (compareOp .NotIn) (rDIn true) := fun pins s σ H x y v u Q I rx ry ⟨a, o, e, g, q⟩ => by
  subst e
  obtain rfl : u = Value.ref a := ry
  exact d_notIn hu I g rx fun s' I' => ⟨.bl (!o.isSome), H, I', rfl, by rw [Bool.true_xor] at q; exact q⟩
/-- a tuple of whole numbers, as a key -/
def tK (k : List Int) : List Key := k.map Sum.inl
theorem tKey_rep {K : PySem.W.Frag} {H : Hp} {g : GH} {v : V} {k : List Int} (r : Rep K H g v (.tup (k.map .int))) : ∃ b, v = .ref b ∧ H b = some (.tup ((tK k).map kV)) := by
  cases r with
  | tup h q =>
    refine ⟨_, rfl, ?_⟩
    rw [reps_intsO q] at h
    rw [h]
    unfold tK
    rw [List.map_map]
    rfl
theorem trk_dt {K : PySem.W.Frag} {B : List Addr} {H : Hp} {g : GH} {p : Addr} {xs : List (List Key × D)} (w : Vw K B H g) (h : g p = some (.dt xs)) : ∃ vs, H p = some (.dT vs) ∧ DRep K (hide H B) g vs xs := by
  obtain ⟨u, hu, r⟩ := w.rg p _ h
  cases r with
  | dT r => exact ⟨_, (of_hide hu).1, r⟩
def fDIn (neg : Bool) : R → R → GH → QK → Prop := fun x y g Q => match y with
  | .v (.ref a) => (∃ kvs k, g a = some (.dk kvs) ∧ dKey x.fz = some k ∧ Q (.v (.bl (neg ^^ (lookD kvs k).isSome))) g) ∨ ∃ kvs k, g a = some (.dt kvs) ∧ x.fz = .tup (k.map .int) ∧ Q (.v (.bl (neg ^^ (lookD kvs (tK k)).isSome))) g
  | _ => False
theorem ok_dIn {K : PySem.W.Frag} {neg : Bool} : R2Ok K (fDIn neg) (rDIn neg) := fun x y d e B H g Q0 Q rx ry w q c => by
  unfold fDIn at q
  split at q
  · rename_i a
    cases ry
    rcases q with ⟨kvs, k, hg, hk, q⟩ | ⟨kvs, k, hg, hk, q⟩
    · obtain ⟨vs, hp, r⟩ := trk_dk w hg
      obtain rfl := dKey_rep rx hk
      refine ⟨a, _, rfl, .k hp, ?_⟩
      rcases r.look k with ⟨e1, e2⟩ | ⟨v, d', e1, e2, _⟩
      · rw [e1]; rw [e2] at q; exact c.here q (.bl _) w
      · rw [e1]; rw [e2] at q; exact c.here q (.bl _) w
    · obtain ⟨vs, hp, r⟩ := trk_dt w hg
      rw [hk] at rx
      obtain ⟨b, rfl, hb⟩ := tKey_rep rx
      refine ⟨a, _, rfl, .t hp (of_hide hb).1, ?_⟩
      rcases r.look (tK k) with ⟨e1, e2⟩ | ⟨v, d', e1, e2, _⟩
      · rw [e1]; rw [e2] at q; exact c.here q (.bl _) w
      · rw [e1]; rw [e2] at q; exact c.here q (.bl _) w
  · exact q.elim
def rDIx : R2 := fun x y H Q => ∃ a v, x = .ref a ∧ DGet H a y (some v) ∧ Q v H
theorem ix_dict {X : Cx} (hu : X.A.units + 1 < cLine) : IxR X rDIx := fun a b pins s σ H x y v u Q I rx ry ⟨p, z, e, g, q⟩ es => by
  subst e
  obtain rfl : v = Value.ref p := rx
  have hT := dict_typeIs I g
  unfold subscriptTail
  refine wpAny_bind ?_
  rw [getitemInPython_of_ne hT.not_modules]
  refine wpAny_bind (wpAny_specialOf hT PySem.F.slot_dict_getitem.lookup ?_)
  have fin : wpAny (model X.prog X.w) X.A (subscripted b false (Value.ref p) u) (fun r s₃ => wpAny (model X.prog X.w) X.A (letTemporaryGo a (Value.ref p) r >>= fun _ => pure r) (EP X pins σ Q) X.xe s₃) X.xe s := by
    rw [es]
    exact wpAny_operating (d_getItem hu I g ry fun w' s3 I3 rw' => wpAny_bind (wpAny_letTemporaryGo (wpAny_pure ⟨z, H, I3, rw', q⟩)))
  first
    | exact wpAny_pure (wpAny_bind fin)
    | exact wpAny_bind (wpAny_pure (wpAny_bind fin))
    | exact wpAny_bind fin
def fDIx : R → R → GH → QK → Prop := fun x y g Q => match x with
  | .v (.ref a) => (∃ kvs k d, g a = some (.dk kvs) ∧ dKey y.fz = some k ∧ lookD kvs k = some d ∧ Q (.v d) g) ∨ ∃ kvs k d, g a = some (.dt kvs) ∧ y.fz = .tup (k.map .int) ∧ lookD kvs (tK k) = some d ∧ Q (.v d) g
  | _ => False
theorem ok_dIx {K : PySem.W.Frag} : R2Ok K fDIx rDIx := fun x y d e B H g Q0 Q rx ry w q c => by
  unfold fDIx at q
  split at q
  · rename_i a
    cases rx
    rcases q with ⟨kvs, k, z, hg, hk, hl, q⟩ | ⟨kvs, k, z, hg, hk, hl, q⟩
    · obtain ⟨vs, hp, r⟩ := trk_dk w hg
      obtain rfl := dKey_rep ry hk
      rcases r.look k with ⟨e1, e2⟩ | ⟨v, d', e1, e2, r'⟩
      · rw [hl] at e2; cases e2
      · rw [hl] at e2; cases e2
        exact ⟨a, v, rfl, e1 ▸ .k hp, c.here q r' w⟩
    · obtain ⟨vs, hp, r⟩ := trk_dt w hg
      rw [hk] at ry
      obtain ⟨b, rfl, hb⟩ := tKey_rep ry
      rcases r.look (tK k) with ⟨e1, e2⟩ | ⟨v, d', e1, e2, r'⟩
      · rw [hl] at e2; cases e2
      · rw [hl] at e2; cases e2
        exact ⟨a, v, rfl, e1 ▸ .t hp (of_hide hb).1, c.here q r' w⟩
  · exact q.elim

/-! ### keys that are tuples of whole numbers and texts -/
def keyD : Key → D
  | .inl i => .int i
  | .inr x => .str x
theorem reps_keys {K : PySem.W.Frag} {H : Hp} {g : GH} : ∀ {ks : List Key} {vs : List V}, Reps K H g vs (ks.map keyD) → vs = ks.map kV
  | [], _, .nil => rfl
  | .inl i :: ks, _, .cons r t => by
    have r' : Rep K H g _ (.int i) := r
    rw [reps_keys t]
    cases r'; rfl
  | .inr i :: ks, _, .cons r t => by
    have r' : Rep K H g _ (.str i) := r
    rw [reps_keys t]
    cases r'; rfl
theorem mKey_rep {K : PySem.W.Frag} {H : Hp} {g : GH} {v : V} {k : List Key} (r : Rep K H g v (.tup (k.map keyD))) : ∃ b, v = .ref b ∧ H b = some (.tup (k.map kV)) := by
  cases r with
  | tup h q =>
    rw [reps_keys q] at h
    exact ⟨_, rfl, h⟩
def fDInM (neg : Bool) : R → R → GH → QK → Prop := fun x y g Q => match y with
  | .v (.ref a) => ∃ kvs k, g a = some (.dt kvs) ∧ x.fz = .tup (k.map keyD) ∧ Q (.v (.bl (neg ^^ (lookD kvs k).isSome))) g
  | _ => False
theorem ok_dInM {K : PySem.W.Frag} {neg : Bool} : R2Ok K (fDInM neg) (rDIn neg) := fun x y d e B H g Q0 Q rx ry w q c => by
  unfold fDInM at q
  split at q
  · rename_i a
    cases ry
    obtain ⟨kvs, k, hg, hk, q⟩ := q
    obtain ⟨vs, hp, r⟩ := trk_dt w hg
    rw [hk] at rx
    obtain ⟨b, rfl, hb⟩ := mKey_rep rx
    refine ⟨a, _, rfl, .t hp (of_hide hb).1, ?_⟩
    rcases r.look k with ⟨e1, e2⟩ | ⟨v, d', e1, e2, _⟩
    · rw [e1]; rw [e2] at q; exact c.here q (.bl _) w
    · rw [e1]; rw [e2] at q; exact c.here q (.bl _) w
  · exact q.elim
def fDIxM : R → R → GH → QK → Prop := fun x y g Q => match x with
  | .v (.ref a) => ∃ kvs k d, g a = some (.dt kvs) ∧ y.fz = .tup (k.map keyD) ∧ lookD kvs k = some d ∧ Q (.v d) g
  | _ => False
theorem ok_dIxM {K : PySem.W.Frag} : R2Ok K fDIxM rDIx := fun x y d e B H g Q0 Q rx ry w q c => by
  unfold fDIxM at q
  split at q
  · rename_i a
    cases rx
    obtain ⟨kvs, k, z, hg, hk, hl, q⟩ := q
    obtain ⟨vs, hp, r⟩ := trk_dt w hg
    rw [hk] at ry
    obtain ⟨b, rfl, hb⟩ := mKey_rep ry
    rcases r.look k with ⟨e1, e2⟩ | ⟨v, d', e1, e2, r'⟩
    · rw [hl] at e2; cases e2
    · rw [hl] at e2; cases e2
      exact ⟨a, v, rfl, e1 ▸ .t hp (of_hide hb).1, c.here q r' w⟩
  · exact q.elim

/-! ### sorted(d): any number of keys -/
def rSortD : List V → Hp → VK → Prop := fun xs H Q => ∃ (a : Addr) (kvs : List (Key × V)) (ks : List Int), xs = [.ref a] ∧ Rd H a (.dK kvs) ∧ kvs.map (·.1) = ks.map Sum.inl ∧
  ∀ (ys : List Int) (p : Addr), ys.Perm ks → ys.Pairwise (· ≤ ·) → H p = none → Q (.ref p) (upd H p (.lst (ys.map V.int)))
theorem cr_sortD {X : Cx} (hcalm : X.calm = true) : CallR X (.builtin "sorted") rSortD := by
  intro pins s σ H xs us Q I r q
  obtain ⟨a, kvs, ks, ex, hd, hks, q⟩ := q
  subst ex
  obtain ⟨u, eu, rx⟩ := vals1 r
  subst eu
  cases rx
  obtain ⟨z, lo, vs, rel, dd⟩ := dk_rd I.hok hd
  obtain ⟨ep, hat⟩ := dd.dictAt
  have hkeys : vs.map (·.1) = ks.map Sum.inl := rel.keys.symm.trans hks
  have hl : vs.length = ks.length := by
    have e := congrArg List.length hkeys
    rw [List.length_map, List.length_map] at e
    exact e
  have hz : ks.length ≤ sizeLine := by rw [← hl, ← rel.length]; exact z
  have h16 : vs.length ≤ sizeLine := by rw [hl]; exact hz
  refine Calls.call_function_entry PyProof.Rows.kind_sorted PyProof.Rows.plain_sorted PyProof.Rows.entry_sorted (PyProof.Rows.args_sorted1 _) ?_
  unfold Builtin.«sorted»
  refine wpAny_bind (m := checkCount "sorted" 1 1 _) (wpAny_pure ?_)
  refine wpAny_bind (PySem.W.kdu_collect (A := X.A.in1) (PySem.W.kdl_dict (knd := mixKind X.prog X.w) (kvs := vs) (ep := ep) lo) (I.ok.hd hcalm) hat h16 fun h' tk acc hk hacc => ?_)
  have hal : acc.toList.length = ks.length := by rw [Array.length_toList, hacc.1, hl]
  have hS : IntsAre acc.toList ks := ints_each hal fun j v e => by
    obtain ⟨k, x, e1, e2⟩ := hacc.2 j v (by rw [← Array.getElem?_toList]; exact e)
    have e3 : (vs.map (·.1))[j]? = some k := by rw [List.getElem?_map, e1]; rfl
    rw [hkeys, List.getElem?_map] at e3
    cases e4 : ks[j]? with
    | none => rw [e4] at e3; cases e3
    | some y =>
      rw [e4] at e3
      have e5 : Sum.inl y = k := Option.some.inj e3
      subst e5
      rcases keyIs_shape (show keyIs (Sum.inl y) v = true from e2) with ⟨i, t, ek, ev⟩ | ⟨z, t, ek, ev⟩
      · cases ek
        exact ⟨y, t, rfl, ev⟩
      · cases ek
  have I1 : Inv X pins σ H { s with heap := h', toks := tk } := I.kept hk
  refine wpAny_bind (wpAny_newList ?_ (by rw [hal]; exact hz))
  have hoL : (h'.push (seqObj "list" acc.toList.toArray 0)).get? h'.objs.size = some (seqObj "list" acc.toList.toArray 0) := Heap.get?_push_size _ rfl
  show wpAny _ _ _ _ _ { s with heap := h'.push (seqObj "list" acc.toList.toArray 0), toks := tk }
  refine wpAny_bind (wpAny_holding (wpAny_call_entry PyProof.Rows.slot_list_sort ⟨_, hoL, rfl⟩ PyProof.Rows.entry_list_sort
    (PyProof.Rows.list_sort_treeAny (s := { s with heap := h'.push (seqObj "list" acc.toList.toArray 0), toks := tk }) hoL hS (by rw [hal]; exact hz) fun out ys g1 g2 g3 => ⟨_, rfl, ?_⟩) (PyProof.Rows.args_list_sort _)))
  obtain ⟨e', he'⟩ := PyProof.Rows.sortedHeap_at (vs := acc.toList) (out := out) hoL
  have hlen : (ys.map V.int).length ≤ sizeLine := by
    rw [List.length_map, g2.length_eq]
    exact hz
  refine wpAny_pure ⟨_, rfl, .ref h'.objs.size, upd H h'.objs.size (.lst (ys.map V.int)), I1.laid (t' := tk) (fun b u e => ?_) (Nat.le_refl _)
    (show ObjOk X.prog X.w _ _ _ (.lst (ys.map V.int)) from ⟨hlen, out.toList, e', vals_of_ints g1, by rw [Array.toArray_toList]; exact he'⟩), rfl, q ys _ g2 g3 (I1.hok.fresh (Nat.le_refl _))⟩
  have hb : b < h'.objs.size := Heap.lt_size e
  rw [PyProof.Rows.sortedHeap_old (Nat.ne_of_lt hb) (by rw [size_push']; exact Nat.lt_succ_of_lt hb)]
  exact Heap.get?_push_of_some _ e

/-! ### range with a step -1 -/
/-- i, i - 1, .. down to above j -/
def downD (i : Int) (n : Nat) : List D := (List.range n).map fun (m : Nat) => D.int (i - m)
theorem itDown {K : PySem.W.Frag} {B : List Addr} {H0 : Hp} {g0 : GH} {i : Int} {n : Nat} : ItOk K B H0 g0 (Itc i (-1) n) (downD i n) fun _ => True := fun B' m H g _ _ rg f _ => by
  refine ⟨fun d hd => ?_, fun hi => by unfold downD at hi; rw [List.length_map, List.length_range] at hi; exact Nat.le_of_eq hi.symm⟩
  unfold downD at hd
  rw [List.getElem?_map] at hd
  by_cases hi : m < n
  · rw [List.getElem?_range hi] at hd
    cases hd
    exact ⟨hi, fun x H' hy => by
      obtain ⟨rfl, rfl⟩ := hy
      rw [show i + (m : Nat) * (-1 : Int) = i - (m : Nat) by omega]
      exact ⟨.int _, rg, Fr.refl _ _⟩⟩
  · rw [List.getElem?_eq_none (by rw [List.length_range]; omega)] at hd
    cases hd
def wRngD (tr : TAD) : TID := fun ρ g Q W => tr ρ g (fun ds g1 => match ds with | [.int i, .int j, .int k] => k = -1 ∧ (-(2 ^ 62) ≤ i ∧ i < 2 ^ 62 ∧ -(2 ^ 62) ≤ j ∧ j < 2 ^ 62) ∧ Q (downD i (i - j).toNat) (fun _ => True) g1 | _ => False) W
section
variable {X : Cx} {e tg : Expr} {tr : TAD} {E : L2.St → XK}
theorem q_rngD (h : PI X tg e (iRng3 (LA X.K E tr))) : PI X tg e (LI X.K E (wRngD tr)) :=
  PI.of h fun σ H R ⟨B, ρ, g, Q0, W0, rs, rg, t, c, xc⟩ =>
    ⟨B, ρ, g, _, W0, rs, rg, t, fun ds g1 vs H1 hq rd w1 f1 => by
      dsimp only at hq
      split at hq
      · obtain ⟨rfl, ⟨h1, h2, h3, h4⟩, hq⟩ := hq
        cases rd with
        | cons r1 r2 =>
          cases r2 with
          | cons r2 r3 =>
            cases r3 with
            | cons r3 r4 =>
              cases r4
              exact ⟨_, _, _, _, by rw [int_of r1, int_of r2, int_of r3], RgC.neg h1 h2 h3 h4, c _ _ g1 _ H1 hq itDown w1 f1⟩
      · exact hq.elim, xc⟩
end
/-! ### dict of pairs -/
def dictS (ns : List Int) : List (Key × D) := ns.foldl (fun acc n => putD acc (Sum.inl n) (.bl true)) []
theorem pairs_ref {K : PySem.W.Frag} {B : List Addr} {H : Hp} {g : GH} : ∀ {ns : List Int} {vs : List V}, Reps K (hide H B) g vs (ns.map fun n => .tup [.int n, .bl true]) → ∃ ps : List Addr, vs = ps.map V.ref ∧ Paired (fun p kv => SqT K H p [kV kv.1, kv.2]) ps (ns.map fun n => ((Sum.inl n : Key), V.bl true))
  | [], _, .nil => ⟨[], rfl, .nil⟩
  | n :: ns, _, .cons r t => by
    obtain ⟨ps, rfl, q⟩ := pairs_ref t
    cases r with
    | @tup a us _ h r =>
      match r with
      | .cons r1 (.cons r2 .nil) =>
        cases r1; cases r2
        exact ⟨a :: ps, rfl, .cons (.inl (.inl (of_hide h).1)) q⟩
theorem merge_rep {K : PySem.W.Frag} {H : Hp} {g : GH} : ∀ (ns : List Int) {r : List (Key × V)} {s : List (Key × D)}, DRep K H g r s → DRep K H g (mergeK r (ns.map fun n => ((Sum.inl n : Key), V.bl true))) (ns.foldl (fun acc n => putD acc (Sum.inl n) (.bl true)) s)
  | [], _, _, h => h
  | n :: ns, _, _, h => merge_rep ns (h.put (Sum.inl n) (.bl true))
end G3
/-! G3: tables of operators and built-ins -/
namespace G3
open PySem L2

/-! ### implications -/
theorem bin_imp {K : PySem.W.Frag} {E : L2.St → XK} {f : R → R → GH → QK → Prop} {r : R2} {ta tb : TD} (hr : R2Ok K f r) {σ : L2.St} {H : Hp} {Q : VK} (h : LE K E (wBin f ta tb) σ H Q) : tOp r (LE K E ta) (LE K E tb) σ H Q := by
  obtain ⟨B, ρ, g, Q0, W0, rs, rg, t, c, xc⟩ := h
  exact ⟨B, ρ, g, _, W0, rs, rg, t, fun d g1 x H1 hb rd rg1 f1 _ => ⟨B, ρ, g1, _, W0, rs.fv rg f1, rg1, hb, fun e g2 y H2 hf re rg2 f2 _ => hr x y d e B H2 g2 Q0 Q (rd.fv rg1 f2) re rg2 hf (c.after (f1.trans f2)), xc.after f1⟩, xc⟩
theorem test_imp {K : PySem.W.Frag} {E : L2.St → XK} {t : TD} {t' : TE} (i : ∀ σ H Q, LE K E t σ H Q → t' σ H Q) {σ : L2.St} {H : Hp} {Q : Bool → Hp → Prop} (h : LT K E (wTest t) σ H Q) : t' σ H fun x H' => ∃ k, x = .bl k ∧ Q k H' := by
  obtain ⟨B, ρ, g, Q0, W0, rs, rg, t, c, xc⟩ := h
  refine i _ _ _ ⟨B, ρ, g, _, W0, rs, rg, t, fun d g1 x H1 hb rd rg1 f1 _ => ?_, xc⟩
  match d, rd, hb with
  | .v (.bl b), rd, hb => exact ⟨b, bl_of rd, c b g1 H1 hb rg1 f1⟩
  | .v .non, _, hb | .v (.int _), _, hb | .v (.str _), _, hb | .v (.ty _), _, hb | .v (.ref _), _, hb | .v (.tup _), _, hb | .v (.lst _), _, hb | .v (.rl _), _, hb | .tl _, _, hb => exact hb.elim
/-- a < b < c -/
def wCh (f f' : R → R → GH → QK → Prop) (ta tb tc : TD) : TD := fun ρ g Q W => ta ρ g (fun x g1 => tb ρ g1 (fun y g2 => f x y g2 fun z g3 => match z with
  | .v (.bl k) => if k = true then tc ρ g3 (fun z' g4 => f' (.v y.fz) z' g4 Q) W else Q (.v (.bl false)) g3
  | _ => False) W) W

/-! ### tables -/
/-- a list so many times -/
def fRepL : R → R → GH → QK → Prop := fun x y g Q => match y with
  | .v (.int k) => ∃ a, lstOf g x a ∧ -(2 ^ 63) ≤ k ∧ k < 2 ^ 63 ∧ a.length * k.toNat ≤ sizeLine ∧ Q (.tl (List.replicate k.toNat a).flatten) g
  | _ => False
theorem ok_repL {K : PySem.W.Frag} : R2Ok K fRepL rRep := fun x y d e B H g Q0 Q rx ry rg q c => by
  unfold fRepL at q
  split at q
  · obtain ⟨a, ha, h1, h2, hz, q⟩ := q
    obtain ⟨p, vs, rfl, hp, r1⟩ := ha.rep rg.rg rx
    exact ⟨p, _, vs, rfl, int_of ry, (of_hide hp).1, h1, h2, by rw [r1.length]; exact hz, fun p3 h3 => c.newL q (r1.flat _) rg p3 h3⟩
  · exact q.elim
/-- is, is not, of truths -/
def fB2 (h : Bool → Bool → D) : R → R → GH → QK → Prop := fun x y g Q => match x, y with
  | .v (.bl i), .v (.bl j) => Q (.v (h i j)) g
  | _, _ => False
theorem ok_isB {K : PySem.W.Frag} : R2Ok K (fB2 fun i j => .bl (decide (i = j))) rIsB := fun x y d e B H g Q0 Q rx ry rg q c => by
  unfold fB2 at q
  split at q
  · exact ⟨_, _, bl_of rx, bl_of ry, c.here q (.bl _) rg⟩
  · exact q.elim
theorem ok_notB {K : PySem.W.Frag} : R2Ok K (fB2 fun i j => .bl (!decide (i = j))) rNotB := fun x y d e B H g Q0 Q rx ry rg q c => by
  unfold fB2 at q
  split at q
  · exact ⟨_, _, bl_of rx, bl_of ry, c.here q (.bl _) rg⟩
  · exact q.elim
inductive Bop | addI | subI | mulI | modI | fdivI | powI | addS | addT | addL | repT | mulW | addA | repL
def Bop.op : Bop → Operator
  | .addI | .addS | .addT | .addL | .addA => .Add
  | .subI => .Sub
  | .mulI | .repT | .mulW | .repL => .Mult
  | .modI => .Mod
  | .fdivI => .FloorDiv
  | .powI => .Pow
def Bop.f : Bop → R → R → GH → QK → Prop
  | .addI => fI2 (fun _ _ => True) fun i j => .int (i + j)
  | .subI => fI2 (fun _ _ => True) fun i j => .int (i - j)
  | .mulI => fI2 CMul fun i j => .int (i * j)
  | .mulW => fI2 CMulX fun i j => .int (i * j)
  | .modI => fI2 (fun _ j => 0 < j) fun i j => .int (i % j)
  | .fdivI => fI2 CDiv fun i j => .int (i / j)
  | .powI => fI2 CPow fun i j => .int (i ^ j.toNat)
  | .addS => fAddS
  | .addT => fAddT
  | .addL => fAddL
  | .repT => fRepT
  | .addA => fAddA
  | .repL => fRepL
theorem Bop.ok (X : Cx) (b : Bop) : ∃ r, OpR X (binaryOp b.op) r ∧ R2Ok X.K b.f r := by
  cases b with
  | addI => exact ⟨_, op_add, ok_I20 fun _ _ _ _ => .int _⟩
  | subI => exact ⟨_, op_sub, ok_I20 fun _ _ _ _ => .int _⟩
  | mulI => exact ⟨_, op_mul, ok_I2 fun _ _ _ _ => .int _⟩
  | mulW => exact ⟨_, op_mulX, ok_I2 fun _ _ _ _ => .int _⟩
  | modI => exact ⟨_, op_mod, ok_I2 fun _ _ _ _ => .int _⟩
  | fdivI => exact ⟨_, op_fdiv, ok_I2 fun _ _ _ _ => .int _⟩
  | powI => exact ⟨_, op_pow, ok_I2 fun _ _ _ _ => .int _⟩
  | addS => exact ⟨_, op_add_str, ok_addS⟩
  | addT => exact ⟨_, op_catA, ok_addT⟩
  | addL => exact ⟨_, op_cat, ok_addL⟩
  | repT => exact ⟨_, op_repA, ok_repT⟩
  | addA => exact ⟨_, op_addA, ok_addA⟩
  | repL => exact ⟨_, op_rep, ok_repL⟩
/-- two texts -/
def fS2 (h : Str → Str → D) : R → R → GH → QK → Prop := fun x y g Q => match x, y with
  | .v (.str i), .v (.str j) => Q (.v (h i j)) g
  | _, _ => False
def rS2 (h : Str → Str → V) : R2 := fun x y H Q => ∃ i j, x = .str i ∧ y = .str j ∧ Q (h i j) H
theorem ok_S2 {K : PySem.W.Frag} {h : Str → Str → D} {h' : Str → Str → V} (hh : ∀ i j H g, Rep K H g (h' i j) (h i j)) : R2Ok K (fS2 h) (rS2 h') := fun x y d e B H g Q0 Q rx ry rg q c => by
  unfold fS2 at q
  split at q
  · exact ⟨_, _, str_of rx, str_of ry, c.here q (hh _ _ _ g) rg⟩
  · exact q.elim
theorem op_eqS {X : Cx} : OpR X (compareOp .Eq) (rS2 fun i j => .bl (decide (i = j))) := fun pins s σ H x y v u Q I rx ry ⟨i, j, hx, hy, q⟩ =>
  op_eq pins s σ H x y v u Q I rx ry (by subst hx hy; exact ⟨rfl, by rw [show decide (V.str i = V.str j) = decide (i = j) by simp]; exact q⟩)
theorem op_neS {X : Cx} : OpR X (compareOp .NotEq) (rS2 fun i j => .bl (!decide (i = j))) := fun pins s σ H x y v u Q I rx ry ⟨i, j, hx, hy, q⟩ =>
  op_ne pins s σ H x y v u Q I rx ry (by subst hx hy; exact ⟨rfl, by rw [show decide (V.str i = V.str j) = decide (i = j) by simp]; exact q⟩)
/-- one sign in a text -/
def fInT : R → R → GH → QK → Prop := fun x y g Q => match x, y with
  | .v (.str a), .v (.str z) => ∃ c, a = ⟨#[c]⟩ ∧ Q (.v (.bl (decide (c ∈ z.cps.toList)))) g
  | _, _ => False
theorem ok_inT {K : PySem.W.Frag} : R2Ok K fInT rInS := fun x y d e B H g Q0 Q rx ry w q c => by
  unfold fInT at q
  split at q
  · obtain ⟨k, rfl, q⟩ := q
    exact ⟨k, _, str_of rx, str_of ry, c.here q (.bl _) w⟩
  · exact q.elim
inductive Cop | ltI | leI | gtI | geI | eqI | neI | eqS | neS | eqD | neD | isN | notN | inS | ninS | inD | ninD | inA | ninA | isB | notB | inK | ninK | inM | ninM | inT
def Cop.op : Cop → CmpOp
  | .ltI => .Lt | .leI => .LtE | .gtI => .Gt | .geI => .GtE
  | .eqI | .eqD | .eqS => .Eq | .neI | .neD | .neS => .NotEq
  | .isN | .isB => .Is | .notN | .notB => .IsNot
  | .inS | .inD | .inA | .inK | .inM | .inT => .In | .ninS | .ninD | .ninA | .ninK | .ninM => .NotIn
def Cop.f : Cop → R → R → GH → QK → Prop
  | .ltI => fI2 (fun _ _ => True) fun i j => .bl (decide (i < j))
  | .leI => fI2 (fun _ _ => True) fun i j => .bl (decide (i ≤ j))
  | .gtI => fI2 (fun _ _ => True) fun i j => .bl (decide (j < i))
  | .geI => fI2 (fun _ _ => True) fun i j => .bl (decide (j ≤ i))
  | .eqI => fI2 (fun _ _ => True) fun i j => .bl (decide (i = j))
  | .neI => fI2 (fun _ _ => True) fun i j => .bl (!decide (i = j))
  | .eqS => fS2 fun i j => .bl (decide (i = j))
  | .neS => fS2 fun i j => .bl (!decide (i = j))
  | .eqD => fEq false
  | .neD => fEq true
  | .isN => fIsN false
  | .notN => fIsN true
  | .inS => fIn false
  | .ninS => fIn true
  | .inD => fInD false
  | .ninD => fInD true
  | .inA => fInA false
  | .inK => fDIn false
  | .ninK => fDIn true
  | .inM => fDInM false
  | .ninM => fDInM true
  | .inT => fInT
  | .ninA => fInA true
  | .isB => fB2 fun i j => .bl (decide (i = j))
  | .notB => fB2 fun i j => .bl (!decide (i = j))
theorem op_eqI {X : Cx} : OpR X (compareOp .Eq) (rI0 fun i j => .bl (decide (i = j))) := fun pins s σ H x y v u Q I rx ry ⟨i, j, hx, hy, q⟩ =>
  op_eq pins s σ H x y v u Q I rx ry (by subst hx hy; exact ⟨rfl, by rw [show decide (V.int i = V.int j) = decide (i = j) by simp]; exact q⟩)
theorem op_neI {X : Cx} : OpR X (compareOp .NotEq) (rI0 fun i j => .bl (!decide (i = j))) := fun pins s σ H x y v u Q I rx ry ⟨i, j, hx, hy, q⟩ =>
  op_ne pins s σ H x y v u Q I rx ry (by subst hx hy; exact ⟨rfl, by rw [show decide (V.int i = V.int j) = decide (i = j) by simp]; exact q⟩)
theorem Cop.ok (X : Cx) (hu : X.A.units + 65 < cLine) (b : Cop) : ∃ r, OpR X (compareOp b.op) r ∧ R2Ok X.K b.f r := by
  cases b with
  | ltI => exact ⟨_, op_lt, ok_I20 fun _ _ _ _ => .bl _⟩
  | leI => exact ⟨_, op_le, ok_I20 fun _ _ _ _ => .bl _⟩
  | gtI => exact ⟨_, op_gt, ok_I20 fun _ _ _ _ => .bl _⟩
  | geI => exact ⟨_, op_ge, ok_I20 fun _ _ _ _ => .bl _⟩
  | eqI => exact ⟨_, op_eqI, ok_I20 fun _ _ _ _ => .bl _⟩
  | neI => exact ⟨_, op_neI, ok_I20 fun _ _ _ _ => .bl _⟩
  | eqS => exact ⟨_, op_eqS, ok_S2 fun _ _ _ _ => .bl _⟩
  | neS => exact ⟨_, op_neS, ok_S2 fun _ _ _ _ => .bl _⟩
  | eqD => exact ⟨_, op_eqD (by omega), ok_eq⟩
  | neD => exact ⟨_, op_neD (by omega), ok_ne⟩
  | isN => exact ⟨_, op_isN, ok_isN⟩
  | notN => exact ⟨_, op_notN, ok_notN⟩
  | inS => exact ⟨_, op_in_seq, ok_in⟩
  | ninS => exact ⟨_, op_notIn_seq, ok_in⟩
  | inD => exact ⟨_, op_inD hu, ok_inD⟩
  | ninD => exact ⟨_, op_notInD hu, ok_notInD⟩
  | inA => exact ⟨_, op_inA hu, ok_inA⟩
  | ninA => exact ⟨_, op_ninA hu, ok_inA⟩
  | isB => exact ⟨_, op_isBl, ok_isB⟩
  | inK => exact ⟨_, op_dIn (by omega), ok_dIn⟩
  | ninK => exact ⟨_, op_dNin (by omega), ok_dIn⟩
  | inM => exact ⟨_, op_dIn (by omega), ok_dInM⟩
  | ninM => exact ⟨_, op_dNin (by omega), ok_dInM⟩
  | inT => exact ⟨_, op_inS, ok_inT⟩
  | notB => exact ⟨_, op_notBl, ok_notB⟩
inductive Iop | l | t | s | any | d | m
def Iop.f : Iop → R → R → GH → QK → Prop
  | .l => fIx lstOf
  | .t => fIx fun _ => tupOf
  | .s => fIxS
  | .any => fIxA
  | .d => fDIx
  | .m => fDIxM
theorem Iop.ok (X : Cx) (hu : X.A.units + 65 < cLine) (b : Iop) : ∃ r, IxR X r ∧ R2Ok X.K b.f r := by
  cases b with
  | l => exact ⟨_, ix_list, ok_ixL⟩
  | t => exact ⟨_, ix_tup, ok_ixT⟩
  | s => exact ⟨_, ix_str, ok_ixS⟩
  | any => exact ⟨_, ix_any, ok_ixA⟩
  | d => exact ⟨_, ix_dict (by omega), ok_dIx⟩
  | m => exact ⟨_, ix_dict (by omega), ok_dIxM⟩
/-- slices -/
inductive Sop | l | t | s | any
def fSl : Sop → R → Option Int → Option Int → GH → QK → Prop
  | .l => fun x lo hi g Q => ∃ a, (lstOf g x a ∨ rolOf x a) ∧ Q (.tl (cutD a lo hi)) g
  | .t => fun x lo hi g Q => ∃ a, tupOf x a ∧ Q (.v (.tup (cutD a lo hi))) g
  | .s => fun x lo hi g Q => match x with
    | .v (.str z) => z.length ≤ sizeLine ∧ Q (.v (.str (cutS z lo hi))) g
    | _ => False
  | .any => fSlA
theorem Reps.cut {K : PySem.W.Frag} {H : Hp} {g : GH} {vs : List V} {ds : List D} (r : Reps K H g vs ds) (lo hi : Option Int) : Reps K H g (cutV vs lo hi) (cutD ds lo hi) := by
  unfold cutV cutD
  rw [r.length]
  exact (r.drop _).take _
def RSOk (K : PySem.W.Frag) (f : R → Option Int → Option Int → GH → QK → Prop) (r : V → Option Int → Option Int → Hp → VK → Prop) : Prop :=
  ∀ x (d : R) lo hi B H g Q0 Q, Rep K (hide H B) g x d.fz → Vw K B H g → f d lo hi g Q0 → Cont K B H g Q0 Q → r x lo hi H Q
theorem cutAll {α : Type} {xs : List α} {lo hi : Option Int} (h : HT.sIx xs.length 0 lo = 0 ∧ HT.sIx xs.length xs.length hi = xs.length) : cutD xs lo hi = xs := by
  unfold cutD
  rw [h.1, h.2, List.drop_zero, Nat.sub_zero, List.take_length]
theorem Sop.ok1 (X : Cx) (b : Sop) (hb : b ≠ .any) : ∃ r, SlR X r ∧ RSOk X.K (fSl b) r := by
  cases b with
  | any => exact absurd rfl hb
  | l => exact ⟨_, sl_list, fun x d lo hi B H g Q0 Q rx w ⟨a, ha, q⟩ c => by
      rcases ha with ha | ha
      · obtain ⟨p, vs, rfl, hp, r1⟩ := ha.rep w.rg rx
        exact ⟨p, vs, rfl, .inl (.inl (of_hide hp).1), fun p2 h2 => c.newL q (r1.cut lo hi) w p2 h2⟩
      · obtain ⟨p, vs, rfl, hp, r1⟩ := ha.rep rx
        refine ⟨p, vs, rfl, ?_, fun p2 h2 => c.newL q (r1.cut lo hi) w p2 h2⟩
        rcases hp with (h | ⟨o, h⟩) | h
        · exact .inl (.inl (of_hide h).1)
        · exact .inl (.inr ⟨o, (of_hide h).1⟩)
        · exact .inr h⟩
  | t => exact ⟨_, sl_tupA, fun x d lo hi B H g Q0 Q rx w ⟨a, ha, q⟩ c => by
      obtain ⟨p, vs, rfl, hp, r1⟩ := ha.repH rx
      refine ⟨p, vs, rfl, .inl (.inl (of_hide hp).1), fun e => ?_, fun _ p2 h2 => c.newT q (r1.cut lo hi) w p2 h2⟩
      rw [r1.length] at e
      rw [cutAll e] at q
      exact c.here q (.tup hp r1) w⟩
  | s => exact ⟨_, sl_str, fun x d lo hi B H g Q0 Q rx w q c => by
      unfold fSl at q
      dsimp only at q
      split at q
      · exact ⟨_, str_of rx, q.1, c.here q.2 (.str _) w⟩
      · exact q.elim⟩

theorem Sop.ok (X : Cx) (b : Sop) : ∃ r, SlR X r ∧ RSOk X.K (fSl b) r := by
  by_cases hb : b = .any
  · subst hb
    obtain ⟨r1, h1, o1⟩ := Sop.ok1 X .l (by simp)
    obtain ⟨r2, h2, o2⟩ := Sop.ok1 X .t (by simp)
    obtain ⟨r3, h3, o3⟩ := Sop.ok1 X .s (by simp)
    refine ⟨_, SlR.or h1 (SlR.or h2 h3), fun x d lo hi B H g Q0 Q rx w q c => ?_⟩
    match d, rx, q with
    | .tl a, rx, q => exact .inl (o1 x (.tl a) lo hi B H g Q0 Q rx w ⟨a, .inl rfl, q⟩ c)
    | .v (.lst a), rx, q => exact .inl (o1 x (.v (.lst a)) lo hi B H g Q0 Q rx w ⟨a, .inl rfl, q⟩ c)
    | .v (.rl a), rx, q => exact .inl (o1 x (.v (.rl a)) lo hi B H g Q0 Q rx w ⟨a, .inr rfl, q⟩ c)
    | .v (.ref p), rx, ⟨a, hp, q⟩ => exact .inl (o1 x (.v (.ref p)) lo hi B H g Q0 Q rx w ⟨a, .inl hp, q⟩ c)
    | .v (.tup a), rx, q => exact .inr (.inl (o2 x (.v (.tup a)) lo hi B H g Q0 Q rx w ⟨a, rfl, q⟩ c))
    | .v (.str z), rx, q => exact .inr (.inr (o3 x (.v (.str z)) lo hi B H g Q0 Q rx w q c))
  · exact Sop.ok1 X b hb

/-! ### built-ins by name: of their arguments -/
theorem Reps.bl_inv {K : PySem.W.Frag} {H : Hp} {g : GH} : ∀ {bs : List Bool} {vs : List V}, Reps K H g vs (bs.map .bl) → vs = bs.map V.bl
  | [], _, .nil => rfl
  | b :: bs, _, .cons r t => by rw [bl_of r, Reps.bl_inv t]; rfl
theorem Reps.int_inv {K : PySem.W.Frag} {H : Hp} {g : GH} : ∀ {bs : List Int} {vs : List V}, Reps K H g vs (bs.map .int) → vs = bs.map V.int
  | [], _, .nil => rfl
  | b :: bs, _, .cons r t => by rw [int_of r, Reps.int_inv t]; rfl
theorem Reps.str_inv {K : PySem.W.Frag} {H : Hp} {g : GH} : ∀ {bs : List Str} {vs : List V}, Reps K H g vs (bs.map .str) → vs = bs.map V.str
  | [], _, .nil => rfl
  | b :: bs, _, .cons r t => by rw [str_of r, Reps.str_inv t]; rfl
theorem Reps.ints {K : PySem.W.Frag} {H : Hp} {g : GH} : ∀ (bs : List Int), Reps K H g (bs.map V.int) (bs.map .int)
  | [] => .nil
  | b :: bs => .cons (.int b) (Reps.ints bs)
theorem Reps.strs {K : PySem.W.Frag} {H : Hp} {g : GH} : ∀ (bs : List Str), Reps K H g (bs.map V.str) (bs.map .str)
  | [] => .nil
  | b :: bs => .cons (.str b) (Reps.strs bs)
def ins (n : Int) : List Int → List Int
  | [] => [n]
  | m :: ms => if n ≤ m then n :: m :: ms else m :: ins n ms
/-- sorted -/
def isort : List Int → List Int
  | [] => []
  | n :: ns => ins n (isort ns)
theorem ins_perm (n : Int) : ∀ ms : List Int, (ins n ms).Perm (n :: ms)
  | [] => .refl _
  | m :: ms => by
    unfold ins
    split
    · exact .refl _
    · exact ((ins_perm n ms).cons m).trans (.swap n m ms)
theorem isort_perm : ∀ ns : List Int, (isort ns).Perm ns
  | [] => .refl _
  | n :: ns => (ins_perm n _).trans ((isort_perm ns).cons n)
theorem ins_sorted {n : Int} : ∀ {ms : List Int}, ms.Pairwise (· ≤ ·) → (ins n ms).Pairwise (· ≤ ·)
  | [], _ => List.pairwise_singleton _ _
  | m :: ms, h => by
    rw [List.pairwise_cons] at h
    unfold ins
    split
    · rename_i hn
      refine List.pairwise_cons.mpr ⟨fun a ha => ?_, List.pairwise_cons.mpr h⟩
      rcases List.mem_cons.mp ha with e | ha
      · rw [e]; exact hn
      · exact Int.le_trans hn (h.1 a ha)
    · rename_i hn
      refine List.pairwise_cons.mpr ⟨fun a ha => ?_, ins_sorted h.2⟩
      rcases List.mem_cons.mp ((ins_perm n ms).mem_iff.mp ha) with e | ha
      · rw [e]; omega
      · exact h.1 a ha
theorem isort_sorted : ∀ ns : List Int, (isort ns).Pairwise (· ≤ ·)
  | [] => .nil
  | n :: ns => ins_sorted (isort_sorted ns)
theorem sorted_uniq : ∀ {l l' : List Int}, l.Perm l' → l.Pairwise (· ≤ ·) → l'.Pairwise (· ≤ ·) → l = l'
  | [], l', p, _, _ => (List.Perm.nil_eq p)
  | a :: l, [], p, _, _ => by simpa using p.length_eq
  | a :: l, b :: l', p, h, h' => by
    rw [List.pairwise_cons] at h h'
    have e : a = b := by
      have h1 : b ∈ a :: l := p.mem_iff.mpr List.mem_cons_self
      have h2 : a ∈ b :: l' := p.mem_iff.mp List.mem_cons_self
      rcases List.mem_cons.mp h1 with e | h1
      · exact e.symm
      · rcases List.mem_cons.mp h2 with e | h2
        · exact e
        · exact Int.le_antisymm (h.1 b h1) (h'.1 a h2)
    subst e
    rw [sorted_uniq (p.cons_inv) h.2 h'.2]
/-- the kind of a value -/
def tyN (g : GH) : D → String → Prop
  | .non, n => n = "NoneType"
  | .bl _, n => n = "bool"
  | .int _, n => n = "int"
  | .str _, n => n = "str"
  | .tup _, n => n = "tuple"
  | .lst _, n => n = "list"
  | .ref a, n => (∃ xs, g a = some (.lst xs) ∧ n = "list") ∨ (∃ kvs, g a = some (.dk kvs) ∧ n = "dict") ∨ ∃ kvs, g a = some (.dt kvs) ∧ n = "dict"
  | .ty _, _ => False
  | .rl _, n => n = "list"
  | .gl _, _ => False
  | .exc _ _, _ => False
theorem tyN.ok {K : PySem.W.Frag} {B : List Addr} {H : Hp} {g : GH} {v : V} {d : D} {n : String} (w : Vw K B H g) (r : Rep K (hide H B) g v d) (h : tyN g d n) : TyX K H v (.type n) := by
  cases r with
  | non => cases h; exact .base .non
  | bl b => cases h; exact .base (.bl _)
  | int i => cases h; exact .base (.int _)
  | str x => cases h; exact .base (.str _)
  | ty n => exact h.elim
  | gl _ => exact h.elim
  | exc0 _ _ _ => exact h.elim
  | exc1 _ _ _ _ _ => exact h.elim
  | tup hs r =>
    cases h
    exact .base (.tup (of_hide hs).1)
  | lst hs _ r => cases h; exact .base (.lst (of_hide hs).1)
  | rl hs r =>
    cases h
    rcases hs with ⟨o, h⟩ | ⟨o, its, m, h, hc, _⟩
    · exact .base (.frz (of_hide h).1)
    · exact .kList h hc
  | ref a =>
    rcases h with ⟨xs, h, rfl⟩ | ⟨kvs, h, rfl⟩ | ⟨kvs, h, rfl⟩
    · obtain ⟨u, hu, r⟩ := w.rg a _ h
      cases r with
      | lst r => exact .base (.lst (of_hide hu).1)
    · obtain ⟨u, hu, r⟩ := w.rg a _ h
      cases r with
      | dK r => exact .base (.dK (of_hide hu).1)
    · obtain ⟨u, hu, r⟩ := w.rg a _ h
      cases r with
      | dT r => exact .base (.dT (of_hide hu).1)
/-- T ⊆ of the built-in kinds -/
def isiB (t c : String) : Bool := t == c || (t == "bool" && c == "int")
def kinds : List String := ["NoneType", "bool", "int", "str", "tuple", "list", "dict"]
theorem isiB_ok (K : PySem.W.Frag) : ∀ t ∈ kinds, ∀ c ∈ kinds, PySem.W.kitOne K (.type t) (.type c) = some (isiB t c) := by
  intro t ht c hc
  refine kit_ty ?_
  have : ∀ t ∈ kinds, ∀ c ∈ kinds, kitB t c = some (isiB t c) := by decide +kernel
  exact this t ht c hc
/-- repr of data -/
def rRepr (K : PySem.W.Frag) : List V → Hp → VK → Prop := fun vs H Q => ∃ v d, vs = [v] ∧ Dp K H v d ∧ PyData.canLay0 d = true ∧ d.depth ≤ 60 ∧ PyData.showable d = true ∧ d.shown.length ≤ sizeLine ∧ Q (.str d.shown) H
theorem call_repr {X : Cx} (gu : X.A.guards = some []) (hu : X.A.units + 70 < cLine) : CallR X (.builtin "repr") (rRepr X.K) := by
  rintro pins s σ H vs us Q I r ⟨v, d, rfl, hd, hl, h60, hs, hz, q⟩
  match us, r with
  | [u], .cons r .nil =>
    have done : ∀ tk t, EP X pins σ Q (.str d.shown t) { s with toks := tk } := fun tk t => ⟨.str d.shown, H, I.tok _, ⟨_, rfl⟩, q⟩
    have big : ∀ a, v = .ref a → wpAny (model X.prog X.w) X.A (call (.builtin "repr") [u]) (EP X pins σ Q) X.xe s := by
      rintro a rfl
      obtain rfl : u = Value.ref a := r
      obtain ⟨as, hr⟩ := Dp.reads I d _ _ hd rfl
      refine repr_of_reads' hr hs (PyData.noDict_hsm (PyData.hasDict_of_canLay d hl)) gu (by omega) (fun _ _ e => e) (fun h' t tk hk => ?_) hz
      exact ⟨.str d.shown, H, I.kept hk, ⟨_, rfl⟩, q⟩
    cases hd with
    | non =>
      obtain rfl : u = Value.none := r
      simp only [PyData.shown] at done
      exact PySem.P.repr_of_none (done _ _)
    | bl b =>
      obtain rfl : u = Value.bool b := r
      simp only [PyData.shown] at done
      exact PySem.P.repr_of_bool (done _ _)
    | int i =>
      obtain ⟨t, rfl⟩ := r
      simp only [PyData.shown] at done
      exact PySem.P.repr_of_int (by simpa [PyData.showable] using hs) (done _ _)
    | str x =>
      obtain ⟨t, rfl⟩ := r
      simp only [PyData.shown] at done hz
      exact PySem.P.repr_of_str (done _ _) hz
    | lst _ _ => exact big _ rfl
    | tup _ _ => exact big _ rfl
/-- the greatest, the least of a list that isn't empty -/
def maxI : List Int → Int
  | [] => 0
  | [n] => n
  | n :: ns => if n < maxI ns then maxI ns else n
def minI : List Int → Int
  | [] => 0
  | [n] => n
  | n :: ns => if minI ns < n then minI ns else n
theorem maxI_spec : ∀ {ns : List Int}, ns ≠ [] → maxI ns ∈ ns ∧ ∀ y ∈ ns, y ≤ maxI ns
  | [], h => absurd rfl h
  | [n], _ => by simp [maxI]
  | n :: m :: ns, _ => by
    obtain ⟨h1, h2⟩ := maxI_spec (ns := m :: ns) (by simp)
    unfold maxI
    split
    · rename_i h
      refine ⟨List.mem_cons_of_mem _ h1, fun y hy => ?_⟩
      rcases List.mem_cons.mp hy with e | hy
      · rw [e]; omega
      · exact h2 y hy
    · rename_i h
      refine ⟨List.mem_cons_self, fun y hy => ?_⟩
      rcases List.mem_cons.mp hy with e | hy
      · rw [e]; exact Int.le_refl _
      · have := h2 y hy; omega
theorem minI_spec : ∀ {ns : List Int}, ns ≠ [] → minI ns ∈ ns ∧ ∀ y ∈ ns, minI ns ≤ y
  | [], h => absurd rfl h
  | [n], _ => by simp [minI]
  | n :: m :: ns, _ => by
    obtain ⟨h1, h2⟩ := minI_spec (ns := m :: ns) (by simp)
    unfold minI
    split
    · rename_i h
      refine ⟨List.mem_cons_of_mem _ h1, fun y hy => ?_⟩
      rcases List.mem_cons.mp hy with e | hy
      · rw [e]; omega
      · exact h2 y hy
    · rename_i h
      refine ⟨List.mem_cons_self, fun y hy => ?_⟩
      rcases List.mem_cons.mp hy with e | hy
      · rw [e]; exact Int.le_refl _
      · have := h2 y hy; omega
inductive Bfn | repr | minL | maxL | len | lenS | all | any | abs | min2 | max2 | sorted | list | tuple | intB | isi (T : String) | strI | isE (xs : List Str) | lenA | minA | maxA | sortedD | reprN | dictP | dictD | intS | sortedM
def Bfn.nm : Bfn → Str
  | .repr | .reprN => "repr" | .minL | .minA => "min" | .maxL | .maxA => "max"
  | .len | .lenS | .lenA => "len" | .all => "all" | .any => "any" | .abs => "abs" | .min2 => "min" | .max2 => "max" | .sorted | .sortedM | .sortedD => "sorted" | .list => "list" | .dictP | .dictD => "dict" | .tuple => "tuple" | .intB | .intS => "int" | .isi _ | .isE _ => "isinstance" | .strI => "str"
def Bfn.u : Bfn → Value
  | .repr | .reprN => .builtin "repr" | .minL | .minA => .builtin "min" | .maxL | .maxA => .builtin "max"
  | .len | .lenS | .lenA => .builtin "len" | .all => .builtin "all" | .any => .builtin "any" | .abs => .builtin "abs" | .min2 => .builtin "min" | .max2 => .builtin "max" | .sorted | .sortedM | .sortedD => .builtin "sorted" | .list => .type "list" | .dictP | .dictD => .type "dict" | .tuple => .type "tuple"
  | .intB | .intS => .type "int" | .isi _ | .isE _ => .builtin "isinstance" | .strI => .type "str"
theorem Bfn.boot : ∀ b : Bfn, bootBuiltins b.nm = some b.u
  | .isi _ | .isE _ => by show bootBuiltins "isinstance" = some (.builtin "isinstance"); decide +kernel
  | .repr | .reprN | .minL | .maxL | .minA | .maxA | .len | .lenS | .lenA | .all | .any | .abs | .min2 | .max2 | .sorted | .sortedM | .sortedD | .list | .dictP | .dictD | .tuple | .intB | .intS | .strI => by decide +kernel
theorem Bfn.nm_ok : ∀ b : Bfn, b.nm ≠ "__name__" ∧ (b.nm == ("__debug__" : Str)) = false
  | .isi _ | .isE _ => by show ("isinstance" : Str) ≠ "__name__" ∧ (("isinstance" : Str) == ("__debug__" : Str)) = false; decide +kernel
  | .repr | .reprN | .minL | .maxL | .minA | .maxA | .len | .lenS | .lenA | .all | .any | .abs | .min2 | .max2 | .sorted | .sortedM | .sortedD | .list | .dictP | .dictD | .tuple | .intB | .intS | .strI => by decide +kernel
theorem Bfn.kind : ∀ b : Bfn, (∃ id, b.u = .builtin id) ∨ ∃ T, b.u = .type T
  | .repr | .reprN | .minL | .maxL | .minA | .maxA | .len | .lenS | .lenA | .all | .any | .abs | .min2 | .max2 | .sorted | .sortedM | .sortedD | .isi _ | .isE _ => .inl ⟨_, rfl⟩
  | .list | .dictP | .dictD | .tuple | .intB | .intS | .strI => .inr ⟨_, rfl⟩
/-- the classes of exceptions that are asked for -/
def Bfn.nx : Bfn → List Str
  | .isE xs => xs
  | _ => []
def Bfn.f : Bfn → List D → GH → QK → Prop
  | .isE xs => fIsE xs
  | .minA => fBest min
  | .maxA => fBest max
  | .lenA => fun ds g Q => match ds with | [.str z] => z.length ≤ sizeLine ∧ Q (.v (.int z.length)) g | [d] => seqOf g (.v d) fun xs _ => Q (.v (.int xs.length)) g | _ => False
  | .reprN => fun ds g Q => match ds with | [z] => okD 60 (rsv2 g z) = true ∧ PyData.showable (pd (rsv2 g z)) = true ∧ (pd (rsv2 g z)).shown.length ≤ sizeLine ∧ Q (.v (.str (pd (rsv2 g z)).shown)) g | _ => False
  | .repr => fun ds g Q => match ds with | [z] => ∃ d, resR g (.v z) d ∧ okD 60 d = true ∧ PyData.showable (pd d) = true ∧ (pd d).shown.length ≤ sizeLine ∧ Q (.v (.str (pd d).shown)) g | _ => False
  | .minL => fun ds g Q => match ds with | [d] => ∃ ns : List Int, lstOf g (.v d) (ns.map .int) ∧ ns ≠ [] ∧ Q (.v (.int (minI ns))) g | _ => False
  | .maxL => fun ds g Q => match ds with | [d] => ∃ ns : List Int, lstOf g (.v d) (ns.map .int) ∧ ns ≠ [] ∧ Q (.v (.int (maxI ns))) g | _ => False
  | .len => fun ds g Q => match ds with | [d] => ∃ xs, (lstOf g (.v d) xs ∨ tupOf (.v d) xs) ∧ Q (.v (.int xs.length)) g | _ => False
  | .lenS => fun ds g Q => match ds with | [.str z] => z.length ≤ sizeLine ∧ Q (.v (.int z.length)) g | _ => False
  | .all => fun ds g Q => match ds with | [d] => ∃ bs : List Bool, lstOf g (.v d) (bs.map .bl) ∧ Q (.v (.bl (bs.all id))) g | _ => False
  | .any => fun ds g Q => match ds with | [d] => ∃ bs : List Bool, lstOf g (.v d) (bs.map .bl) ∧ Q (.v (.bl (bs.any id))) g | _ => False
  | .abs => fun ds g Q => match ds with | [.int i] => Q (.v (.int (if i < 0 then -i else i))) g | _ => False
  | .min2 => fun ds g Q => match ds with | [.int i, .int j] => Q (.v (.int (if j < i then j else i))) g | _ => False
  | .max2 => fun ds g Q => match ds with | [.int i, .int j] => Q (.v (.int (if j > i then j else i))) g | _ => False
  | .dictD => fun ds g Q => match ds with | [.ref a] => ∃ kvs, g a = some (.dk kvs) ∧ ∀ p, g p = none → Q (.v (.ref p)) (gup g p (.dk kvs)) | _ => False
  | .dictP => fun ds g Q => match ds with | [d] => ∃ ns : List Int, lstOf g (.v d) (ns.map fun n => .tup [.int n, .bl true]) ∧ ∀ p, g p = none → Q (.v (.ref p)) (gup g p (.dk (dictS ns))) | _ => False
  | .sortedD => fun ds g Q => match ds with | [.ref a] => ∃ kvs ns, g a = some (.dk kvs) ∧ kvs.map (·.1) = ns.map Sum.inl ∧ Q (.tl ((isort ns).map .int)) g | _ => False
  | .sorted => fun ds g Q => match ds with | [d] => ∃ ns : List Int, (lstOf g (.v d) (ns.map .int) ∨ tupOf (.v d) (ns.map .int)) ∧ Q (.tl ((isort ns).map .int)) g | _ => False
  | .sortedM => fun ds g Q => match ds with | [d] => (∃ ns : List Int, (lstOf g (.v d) (ns.map .int) ∨ tupOf (.v d) (ns.map .int)) ∧ Q (.tl ((isort ns).map .int)) g) ∨ (∃ (ns : List Int) (b : Bool), tupOf (.v d) (ns.map .int ++ [.bl b]) ∧ ∀ ys : List D, ys.Perm (ns.map .int ++ [.bl b]) → Q (.tl ys) g) | _ => False
  | .list => fun ds g Q => match ds with | [d] => ∃ xs, (lstOf g (.v d) xs ∨ tupOf (.v d) xs) ∧ Q (.tl xs) g | _ => False
  | .tuple => fun ds g Q => match ds with | [d] => ∃ xs, (lstOf g (.v d) xs ∨ tupOf (.v d) xs) ∧ Q (.v (.tup xs)) g | _ => False
  | .intS => fun ds g Q => match ds with | [.str z] => ∃ n, PySem.intText? z = some n ∧ z.length ≤ 640 ∧ Q (.v (.int n)) g | _ => False
  | .intB => fun ds g Q => match ds with | [.bl b] => Q (.v (.int (if b then 1 else 0))) g | _ => False
  | .isi T => fun ds g Q => match ds with | [d, .ty c] => c = T ∧ T ∈ kinds ∧ ∃ t, tyN g d t ∧ Q (.v (.bl (isiB t T))) g | _ => False
  | .strI => fun ds g Q => match ds with | [.int i] => i.natAbs.log2 < 1920 ∧ Q (.v (.str (toString i))) g | [.str s] => Q (.v (.str s)) g | _ => False
theorem rd_lt {K : PySem.W.Frag} {B : List Addr} {H : Hp} {g : GH} {v : V} {d : D} {xs : List D} (w : Vw K B H g) (h : Rep K (hide H B) g v d) (l : lstOf g (.v d) xs ∨ tupOf (.v d) xs) :
    ∃ a vs, v = .ref a ∧ Reps K (hide H B) g vs xs ∧ (H a = some (.lst vs) ∨ (SqT K H a vs ∧ d = .tup xs)) := by
  rcases l with l | l
  · obtain ⟨a, vs, e, h, q⟩ := lstOf.rep w.rg (r := .v d) h l; exact ⟨a, vs, e, q, .inl (of_hide h).1⟩
  · have e : d = .tup xs := by
      cases d <;> first | exact l.elim | (cases (show xs = _ from l); rfl)
    obtain ⟨a, vs, e', h, q⟩ := tupOf.rep (r := .v d) h l; exact ⟨a, vs, e', q, .inr ⟨sqT_un h, e⟩⟩
theorem tyN_kinds {g : GH} {d : D} {n : String} (h : tyN g d n) : n ∈ kinds := by
  cases d with
  | ref a => rcases h with ⟨_, _, rfl⟩ | ⟨_, _, rfl⟩ | ⟨_, _, rfl⟩ <;> decide
  | ty n => exact h.elim
  | gl _ => exact h.elim
  | exc _ _ => exact h.elim
  | _ => cases h; decide
theorem okD_more : ∀ (m n : Nat), m ≤ n → ∀ d, okD m d = true → okD n d = true := by
  intro m
  induction m with
  | zero => intro n _ d h; cases d <;> first | exact h | (simp [okD] at h)
  | succ m ih =>
    intro n hn d h
    obtain ⟨n, rfl⟩ : ∃ k, n = k + 1 := ⟨n - 1, by omega⟩
    have all : ∀ ds, okDs m ds = true → okDs n ds = true := by
      intro ds
      induction ds with
      | nil => intro _; rfl
      | cons d ds ih2 =>
        intro h
        simp only [okDs, Bool.and_eq_true] at h ⊢
        exact ⟨ih n (by omega) d h.1, ih2 h.2⟩
    cases d <;> first | exact h | (simp only [okD] at h ⊢; exact all _ h)
/-- asks for a calm place -/
def Bfn.cm : Bfn → Bool
  | .minL | .maxL | .minA | .maxA | .all | .any | .min2 | .max2 | .sortedD | .dictP => true
  | _ => false
theorem Bfn.ok (X : Cx) (b : Bfn) (hcm : b.cm = true → X.calm = true) (gu : X.A.guards = some []) (hu : X.A.units + 70 < cLine) (E : ExcW X.K b.nx) : ∃ r, CallR X b.u r ∧ RNOk X.K b.f r := by
  cases b with
  | isE xs => exact ⟨_, call_isX, ok_isE E⟩
  | minA => exact ⟨_, cr_minA (hcm rfl) (by omega), ok_best⟩
  | maxA => exact ⟨_, cr_maxA (hcm rfl) (by omega), ok_best⟩
  | lenA => exact ⟨_, call_len, fun xs ds B H g Q0 Q r w q c => by
      unfold Bfn.f at q
      dsimp only at q
      split at q
      · match r with
        | .cons r .nil =>
          cases r
          exact ⟨_, _, rfl, ⟨q.1, rfl⟩, c.here q.2 (.int _) w⟩
      · match r with
        | .cons r .nil =>
          obtain ⟨ys, hl⟩ := seqOf.cases q
          obtain ⟨a, vs, rfl, rv, h⟩ := rd_lt w r (hl.imp (·.1) (·.1))
          have q := hl.elim (·.2) (·.2)
          refine ⟨_, vs.length, rfl, ?_, c.here (by rw [rv.length]; exact q) (.int _) w⟩
          rcases h with h | ⟨h, _⟩
          · exact .inl ⟨vs, .inl (.inl h), rfl⟩
          · exact .inr ⟨vs, h, rfl⟩
      · exact q.elim⟩
  | repr => exact ⟨_, call_repr gu hu, fun xs ds B H g Q0 Q r w q c => by
      match ds, r, q with
      | [z], .cons r .nil, ⟨d, hd, h60, hs, hz, q⟩ =>
        have lay := okD_lay 60 d h60
        exact ⟨_, _, rfl, resR.dp (r := .v z) w.un r.un hd (okD_more 60 64 (by omega) d h60), lay.1, lay.2, hs, hz, c.here q (.str _) w⟩⟩
  | reprN => exact ⟨_, call_repr gu hu, fun xs ds B H g Q0 Q r w q c => by
      match ds, r, q with
      | [z], .cons r .nil, ⟨h60, hs, hz, q⟩ =>
        have lay := okD_lay 60 _ h60
        exact ⟨_, _, rfl, rsv2_dp w.un r.un (okD_more 60 64 (by omega) _ h60), lay.1, lay.2, hs, hz, c.here q (.str _) w⟩⟩
  | minL => exact ⟨_, cr_min (hcm rfl), fun xs ds B H g Q0 Q r w q c => by
      match ds, r, q with
      | [d], .cons r .nil, ⟨ns, hl, hn, q⟩ =>
        obtain ⟨a, vs, rfl, h, rv⟩ := lstOf.rep w.rg (r := .v d) r hl
        refine ⟨a, ns, rfl, .inl (.inl (by rw [← rv.int_inv]; exact (of_hide h).1)), List.length_pos_iff.mpr hn, fun m hm ha => ?_⟩
        have sp := minI_spec hn
        rw [show m = minI ns from Int.le_antisymm (ha _ sp.1) (sp.2 m hm)]
        exact c.here q (.int _) w⟩
  | maxL => exact ⟨_, cr_max (hcm rfl), fun xs ds B H g Q0 Q r w q c => by
      match ds, r, q with
      | [d], .cons r .nil, ⟨ns, hl, hn, q⟩ =>
        obtain ⟨a, vs, rfl, h, rv⟩ := lstOf.rep w.rg (r := .v d) r hl
        refine ⟨a, ns, rfl, .inl (.inl (by rw [← rv.int_inv]; exact (of_hide h).1)), List.length_pos_iff.mpr hn, fun m hm ha => ?_⟩
        have sp := maxI_spec hn
        rw [show m = maxI ns from Int.le_antisymm (sp.2 m hm) (ha _ sp.1)]
        exact c.here q (.int _) w⟩
  | len => exact ⟨_, call_len, fun xs ds B H g Q0 Q r w q c => by
      match ds, r, q with
      | [d], .cons r .nil, ⟨ys, hl, q⟩ =>
        obtain ⟨a, vs, rfl, rv, h⟩ := rd_lt w r hl
        refine ⟨_, vs.length, rfl, ?_, c.here (by rw [rv.length]; exact q) (.int _) w⟩
        rcases h with h | ⟨h, _⟩
        · exact .inl ⟨vs, .inl (.inl h), rfl⟩
        · exact .inr ⟨vs, h, rfl⟩⟩
  | lenS => exact ⟨_, call_len, fun xs ds B H g Q0 Q r w q c => by
      match ds, r, q with
      | [.str z], .cons r .nil, ⟨hz, q⟩ =>
        cases r
        exact ⟨_, z.length, rfl, ⟨hz, rfl⟩, c.here q (.int _) w⟩⟩
  | all => exact ⟨_, cr_all (hcm rfl), fun xs ds B H g Q0 Q r w q c => by
      match ds, r, q with
      | [d], .cons r .nil, ⟨bs, hl, q⟩ =>
        obtain ⟨a, vs, rfl, h, rv⟩ := lstOf.rep w.rg (r := .v d) r hl
        exact ⟨a, bs, rfl, .inl (.inl (by rw [← rv.bl_inv]; exact (of_hide h).1)), c.here q (.bl _) w⟩⟩
  | any => exact ⟨_, cr_any (hcm rfl), fun xs ds B H g Q0 Q r w q c => by
      match ds, r, q with
      | [d], .cons r .nil, ⟨bs, hl, q⟩ =>
        obtain ⟨a, vs, rfl, h, rv⟩ := lstOf.rep w.rg (r := .v d) r hl
        exact ⟨a, bs, rfl, .inl (.inl (by rw [← rv.bl_inv]; exact (of_hide h).1)), c.here q (.bl _) w⟩⟩
  | abs => exact ⟨_, call_abs, fun xs ds B H g Q0 Q r w q c => by
      match ds, r, q with
      | [.int i], .cons r .nil, q => cases r; exact ⟨i, rfl, c.here q (.int _) w⟩⟩
  | min2 => exact ⟨_, call_min2 (hcm rfl), fun xs ds B H g Q0 Q r w q c => by
      match ds, r, q with
      | [.int i, .int j], .cons r (.cons r2 .nil), q => cases r; cases r2; exact ⟨i, j, rfl, c.here q (.int _) w⟩⟩
  | max2 => exact ⟨_, call_max2 (hcm rfl), fun xs ds B H g Q0 Q r w q c => by
      match ds, r, q with
      | [.int i, .int j], .cons r (.cons r2 .nil), q => cases r; cases r2; exact ⟨i, j, rfl, c.here q (.int _) w⟩⟩
  | sorted => exact ⟨_, cr_sortedA, fun xs ds B H g Q0 Q r w q c => by
      match ds, r, q with
      | [d], .cons r .nil, ⟨ns, hl, q⟩ =>
        obtain ⟨a, vs, rfl, rv, h⟩ := rd_lt w r hl
        obtain rfl := rv.int_inv
        refine ⟨a, ns, rfl, ?_, fun ns' p hp hs hn => ?_⟩
        · rcases h with h | ⟨h, _⟩
          · exact .inl (.inl (.inl h))
          · exact .inr h
        · rw [sorted_uniq (hp.trans (isort_perm ns).symm) hs (isort_sorted ns)]
          exact c.newL q (Reps.ints _) w p hn⟩
  | sortedM => exact ⟨_, cr_sortedAM, fun xs ds B H g Q0 Q r w q c => by
      match ds, r, q with
      | [d], .cons r .nil, .inl ⟨ns, hl, q⟩ =>
        obtain ⟨a, vs, rfl, rv, h⟩ := rd_lt w r hl
        obtain rfl := rv.int_inv
        refine .inl ⟨a, ns, rfl, ?_, fun ns' p hp hs hn => ?_⟩
        · rcases h with h | ⟨h, _⟩
          · exact .inl (.inl (.inl h))
          · exact .inr h
        · rw [sorted_uniq (hp.trans (isort_perm ns).symm) hs (isort_sorted ns)]
          exact c.newL q (Reps.ints _) w p hn
      | [d], .cons r .nil, .inr ⟨ns, b, hl, q⟩ =>
        obtain ⟨a, vs, rfl, h, rv⟩ := tupOf.rep (r := .v d) r hl
        have h := sqT_un h
        obtain rfl := rv.mix_inv
        refine .inr ⟨a, ns, b, rfl, h, fun ys p hp hn => ?_⟩
        obtain ⟨ds', hp', rd⟩ := reps_perm (ws := ns.map D.int ++ [D.bl b]) (Reps.mix ns b) hp
        exact c.newL (q ds' hp') rd w p hn⟩
  | dictD => exact ⟨_, call_dictD, fun xs ds B H g Q0 Q r w q c => by
      match ds, r, q with
      | [.ref a], .cons r .nil, ⟨kvs, hg, q⟩ =>
        cases r
        obtain ⟨vs, hp, rv⟩ := trk_dk w hg
        exact ⟨a, vs, rfl, .inl hp, fun p hp => c.newO w hp (.dK rv) (q p)⟩⟩
  | dictP => exact ⟨_, call_dictP (hcm rfl), fun xs ds B H g Q0 Q r w q c => by
      match ds, r, q with
      | [d], .cons r .nil, ⟨ns, hl, q⟩ =>
        obtain ⟨a, vs, rfl, h, rv⟩ := lstOf.rep w.rg (r := .v d) r hl
        obtain ⟨ps, rfl, pr⟩ := pairs_ref rv
        exact ⟨a, ps, _, rfl, .inl (.inl (of_hide h).1), pr, fun p hp => c.newO w hp (.dK (merge_rep ns .nil)) (q p)⟩⟩
  | sortedD => exact ⟨_, cr_sortD (hcm rfl), fun xs ds B H g Q0 Q r w q c => by
      match ds, r, q with
      | [.ref a], .cons r .nil, ⟨kvs, ns, hg, hk, q⟩ =>
        cases r
        obtain ⟨vs, hp, rv⟩ := trk_dk w hg
        refine ⟨a, vs, ns, rfl, .inl hp, rv.keys.trans hk, fun ns' p hp hs hn => ?_⟩
        rw [sorted_uniq (hp.trans (isort_perm ns).symm) hs (isort_sorted ns)]
        exact c.newL q (Reps.ints _) w p hn⟩
  | list => exact ⟨_, call_list_of, fun xs ds B H g Q0 Q r w q c => by
      match ds, r, q with
      | [d], .cons r .nil, ⟨ys, hl, q⟩ =>
        obtain ⟨a, vs, rfl, rv, h⟩ := rd_lt w r hl
        refine ⟨a, vs, rfl, ?_, fun l hn => c.newL q rv w l hn⟩
        rcases h with h | ⟨h, _⟩
        · exact .inl (.inl (.inl h))
        · exact .inr h⟩
  | tuple => exact ⟨_, call_tuple_of, fun xs ds B H g Q0 Q r w q c => by
      match ds, r, q with
      | [d], .cons r .nil, ⟨ys, hl, q⟩ =>
        obtain ⟨a, vs, rfl, rv, h⟩ := rd_lt w r hl
        refine ⟨a, vs, rfl, ?_⟩
        rcases h with h | ⟨h, e⟩
        · exact .inl ⟨.inl (.inl h), fun l hn => c.newT q rv w l hn⟩
        · subst e
          exact .inr ⟨h, c.here q r w⟩⟩
  | intS => exact ⟨_, call_int_str, fun xs ds B H g Q0 Q r w q c => by
      match ds, r, q with
      | [.str z], .cons r .nil, ⟨n, h1, h2, q⟩ => cases r; exact ⟨z, n, rfl, h1, h2, c.here q (.int _) w⟩⟩
  | intB => exact ⟨_, call_int1, fun xs ds B H g Q0 Q r w q c => by
      match ds, r, q with
      | [.bl b], .cons r .nil, q => cases r; exact .inr ⟨b, rfl, c.here q (.int _) w⟩⟩
  | isi T => exact ⟨_, call_isi, fun xs ds B H g Q0 Q r w q c => by
      match ds, r, q with
      | [d, .ty z], .cons r (.cons r2 .nil), ⟨e, hT, t, ht, q⟩ =>
        subst e
        cases r2
        exact ⟨_, _, _, _, _, rfl, .ty z, ht.ok w r, isiB_ok X.K t (tyN_kinds ht) z hT, c.here q (.bl _) w⟩⟩
  | strI => exact ⟨_, call_str_int.or SkE.call_str_str, fun xs ds B H g Q0 Q r w q c => by
      match ds, r, q with
      | [.int i], .cons r .nil, ⟨hz, q⟩ => cases r; exact .inl ⟨i, rfl, hz, c.here q (.str _) w⟩
      | [.str s], .cons r .nil, q => cases r; exact .inr ⟨s, rfl, c.here q (.str _) w⟩⟩
end G3
/-! G3m: l.count(x), l.index(x) over data -/
namespace G3
open PySem PySem.Spec PyProof.Rows L2
def rCountD (K : PySem.W.Frag) : V → List V → Hp → VK → Prop := fun x xs H Q => ∃ (a : Addr) (y : V) (d : PyData) (ds : List PyData), x = V.ref a ∧ xs = [y] ∧ Dp K H (V.ref a) (.list ds) ∧ Dp K H y d ∧
  SeqAt.shaped (.list ds) = true ∧ SeqAt.shaped d = true ∧ Q (.int (ds.countP fun z => PyData.eqv z d : Nat)) H
theorem mt_countD {X : Cx} (units : X.A.units + 65 < cLine) : MtR X "list.count" (rCountD X.K) := by
  rintro pins s σ H x xs v us Q I rx rxs ⟨a, y, d, ds, rfl, rfl, hl, hy, sl, sd, q⟩
  cases rx
  match us, rxs with
  | [uy], .cons ry .nil =>
    obtain ⟨bs, r1⟩ := Dp.reads I d y uy hy ry
    have lay : PyData.canLayAll0 ds = true := SeqAt.canLay_of_shaped sl
    have room : X.A.units + 1 + min (PyData.depthAll ds) d.depth < cLine := room_in_shaped sd units
    match hl with
    | .lst hs ha =>
      obtain ⟨its, rv, ⟨⟨cls, dd, data, sls⟩, n, ho, hc, hdn, hdt⟩, hlen⟩ := I.list hs
      simp only at hc hdt
      subst hc hdt
      obtain ⟨as, h4⟩ := Dp.readsAll I ds _ its ha rv
      have hmap : its.map (SeqAt.readOf s.heap) = ds := SeqAt.readsAll_map ds its as lay h4
      have cnt : its.countP (fun u => PyData.eqv (SeqAt.readOf s.heap u) d) = ds.countP fun z => PyData.eqv z d := by
        rw [← hmap, List.countP_map]; rfl
      refine call_meets PySem.F.slot_list_count ⟨_, ho, rfl⟩ PySem.F.entry_list_count (PySem.F.args_list_count_2 _ _)
        (SeqAt.list_countAt a its.toArray n dd sls uy fun u => PyData.eqv (SeqAt.readOf s.heap u) d) ⟨ho, SeqAt.items_eqAt (vs := its.toArray) (show ReadsAll s.heap its.toArray.toList ds as from h4) r1 lay (SeqAt.canLay_of_shaped sd) room, ?_⟩
      refine ⟨.int (ds.countP fun z => PyData.eqv z d : Nat), H, I.tok _, ⟨s.toks, ?_⟩, q⟩
      rw [← cnt] <;> rfl
theorem pds_count {x : D} : ∀ (ds : List D), (pds ds).countP (fun z => PyData.eqv z (pd x)) = ds.countP fun y => deq y x
  | [] => rfl
  | d :: ds => by
    rw [pds, List.countP_cons, List.countP_cons, pds_count ds]; rfl
theorem pds_get : ∀ (ds : List D) (i : Nat), (pds ds)[i]? = (ds[i]?).map pd
  | [], _ => rfl
  | d :: ds, 0 => rfl
  | d :: ds, i + 1 => by simpa [pds] using pds_get ds i
/-- the first place of an equal one -/
def idxD (x : D) : List D → Option Nat
  | [] => none
  | y :: ys => if deq y x = true then some 0 else (idxD x ys).map (· + 1)
theorem idxD_spec {x : D} : ∀ {ys : List D} {j : Nat}, idxD x ys = some j → (∃ z, ys[j]? = some z ∧ deq z x = true) ∧ ∀ m z, m < j → ys[m]? = some z → deq z x = false
  | [], j, h => by simp [idxD] at h
  | y :: ys, j, h => by
    unfold idxD at h
    split at h
    · rename_i e
      cases h
      exact ⟨⟨y, rfl, e⟩, fun m z hm => by omega⟩
    · rename_i e
      cases q : idxD x ys with
      | none => rw [q] at h; cases h
      | some k =>
        rw [q] at h; cases h
        obtain ⟨⟨z, h1, h2⟩, h3⟩ := idxD_spec q
        refine ⟨⟨z, by simpa using h1, h2⟩, fun m z' hm hz => ?_⟩
        cases m with
        | zero =>
          simp at hz; subst hz
          simpa using e
        | succ m => exact h3 m z' (by simpa using hm) (by simpa using hz)
end G3
/-! G3: calls, methods of lists, stores, a def by its body -/
namespace G3
open PySem L2

/-! ### calls of defs -/
abbrev GSp := List D → GH → QK → XKD → Prop
def liftSp (K : PySem.W.Frag) (sp : GSp) : Sp := fun vs H Q E => ∃ B g ds Q0 W0, Vw K B H g ∧ Reps K (hide H B) g vs ds ∧ sp ds g Q0 W0 ∧ Cont K B H g Q0 Q ∧ XCont K B H g W0 E
/-- a def that keeps its promise where no repr is under way -/
structure FnG (P : Program) (w : World) (K : PySem.W.Frag) (mg : Str → Option Value) (base : Heap) (k : Nat) (f : Addr) (fd : FuncData) (ps : List Str) (sp : GSp) : Prop where
  many : ∀ ds g Q W, sp ds g Q W → ds.length = ps.length
  go : ∀ (A : Around) (outer : List PySem.Env) (s : Shared) (H : Hp) (args : Args) (us : List Value) (vs : List V) (Q : VK) (Z : XK), A.guards = some [] → Room k A → Env0 P w K mg base A outer s H →
    BindsTo s fd args (ps.zip us) → Vals vs us → liftSp K sp vs H Q Z → codeAny (model P w) A (.call (.ref f) args) (CR (L2.CX P w) outer P w H s Q Z) s
theorem FnG.len {P : Program} {w : World} {K : PySem.W.Frag} {mg : Str → Option Value} {base : Heap} {k : Nat} {f : Addr} {fd : FuncData} {ps : List Str} {sp : GSp} (F : FnG P w K mg base k f fd ps sp) {vs : List V} {H : Hp} {Q : VK} {Z : XK}
    (h : liftSp K sp vs H Q Z) : vs.length = ps.length := by
  obtain ⟨B, g, ds, Q0, W0, _, r, h, _⟩ := h
  rw [r.length]; exact F.many ds g Q0 W0 h
section
variable {X : Cx} {W : L2.WX} {sp : GSp} {k : Nat} {f : Addr} {fd : FuncData} {ps : List Str}
/-- the callee's run, from a body -/
theorem FnG.at_ (F : FnG X.prog X.w X.K X.mg X.base k f fd ps sp) (gu : X.A.guards = some []) (hr : Room k X.A) (hb : Binds X.K fd ps []) (tk : Takes X W) {pins : List (Addr × Obj)} {σ : L2.St} {H : Hp} {s : Shared} {Q : VK} {us : List Value} {vs : List V}
    (I : Inv X pins σ H s) (r : Vals vs us) (h : liftSp X.K sp vs H Q (WE W σ)) : wpAny (model X.prog X.w) X.A (call (.ref f) us) (EP X pins σ Q) X.xe s := by
  have bnd : BindsTo s fd ⟨us, []⟩ (ps.zip us) := by
    have := hb s us I.kIn (by rw [List.append_nil, ← r.length]; exact F.len h)
    rwa [List.append_nil] at this
  refine wpAny_call (codeAny_mono (F.go X.A X.stack s H ⟨us, []⟩ us vs Q (WE W σ) gu hr I.env0 bnd r h) ?_)
  intro r s2 q
  match r, q with
  | .error x, q => exact passAt tk σ pins H s x s2 I q
  | .ok (.ret u), q => exact I.after q
  | .ok .next, q | .ok .brk, q | .ok .cont, q => exact False.elim q
end
def wCall (sp : GSp) (tr : TAD) : TD := fun ρ g Q W => tr ρ g (fun ds g1 => sp ds g1 Q W) W
section
variable {X : Cx} {x : Str} {p pos apos : Pos} {e o : Expr} {es : List Expr} {tr : TAD} {ta tb tv : TD} {W : L2.WX} {sp : GSp} {k : Nat} {f : Addr} {fd : FuncData} {ps : List Str}
theorem call_imp {K : PySem.W.Frag} {W : L2.WX} {σ : L2.St} {H : Hp} {Q : VK} (h : LE K (WE W) (wCall sp tr) σ H Q) : tCallS (liftSp K sp) (WE W) (LA K (WE W) tr) σ H Q := by
  obtain ⟨B, ρ, g, Q0, W0, rs, rg, t, c, xc⟩ := h
  exact ⟨B, ρ, g, _, W0, rs, rg, t, fun ds g1 vs H1 hq rv w1 f1 => ⟨B, g1, ds, Q0, W0, w1, rv, hq, c.after f1, xc.after f1⟩, xc⟩
theorem q_call (F : FnG X.prog X.w X.K X.mg X.base k f fd ps sp) (gu : X.A.guards = some []) (hr : Room k X.A) (hg : Gl X x) (hm : X.mg x = some (.ref f)) (hk : PySem.W.keepIn X.K (.ref f) = true) (hb : Binds X.K fd ps []) (tk : Takes X W)
    (ha : PA X (e :: es) (LA X.K (WE W) tr)) (hdb : (x == ("__debug__" : Str)) = false) (he : starEach (e :: es) X.env = (false, eval e X.env) :: starEach es X.env) (hpl : (backTo pos (starEach es X.env)).any (·.1) = false) :
    PE X (.Call (.Name x p) (e :: es) [] pos) (LE X.K (WE W) (wCall sp tr)) := by
  refine PE.of ?_ fun σ H Q h => call_imp h
  constructor
  intro pins s σ H Q I h
  apply wpAny_Call_Name_kw
  refine ld_glob I hg hm ?_ hdb
  refine PySem.W.callWith_K I.ok.mod.kin hk (thn (ha.run pos pins s σ H _ I h) ?_) he hpl
  rintro us s1 ⟨vs, H1, I1, r, q⟩
  exact ⟨I1.kIn, F.at_ gu hr hb tk I1 r q⟩

theorem la_nil1 {K : PySem.W.Frag} {E : L2.St → XK} {σ : L2.St} {H : Hp} {Q : List V → Hp → Prop} (h : LA K E wNil σ H Q) : Q [] H := by
  obtain ⟨B, ρ, g, Q0, W0, rs, w, t, c, xc⟩ := h
  exact c [] g [] H t .nil w (Fr.refl _ _)
theorem q_call0 (F : FnG X.prog X.w X.K X.mg X.base k f fd ps sp) (gu : X.A.guards = some []) (hr : Room k X.A) (hg : Gl X x) (hm : X.mg x = some (.ref f)) (hk : PySem.W.keepIn X.K (.ref f) = true) (hb : Binds X.K fd ps []) (tk : Takes X W)
    (hdb : (x == ("__debug__" : Str)) = false) : PE X (.Call (.Name x p) [] [] pos) (LE X.K (WE W) (wCall sp wNil)) := by
  refine PE.of ?_ fun σ H Q h => call_imp h
  constructor
  intro pins s σ H Q I h
  refine wpAny_Call_Name_kw (ld_glob I hg hm ?_ hdb)
  exact PySem.W.callWith_K0 I.kIn hk (F.at_ (us := []) (vs := []) gu hr hb tk I .nil (la_nil1 h))
/-- C.m(..), m a def of the class C: what is known of it -/
structure ClmC (K : PySem.W.Frag) (C : Addr) (m : Str) (f : Addr) : Prop where
  rd : PySem.W.readsIn K C (.type "type") = true
  ga : PySem.W.specialIn K (.ref C) "__getattribute__" = some (some (.builtin "type.__getattribute__"))
  at_ : PySem.W.findCls K (.ref C) (.type "type") m = some (.val (.ref f))
  hd : PySem.W.handedIn (.ref f) = true
  kp : PySem.W.keepIn K (.ref f) = true
theorem q_clm {m : Str} {C : Addr} (F : FnG X.prog X.w X.K X.mg X.base k f fd ps sp) (gu : X.A.guards = some []) (hr : Room k X.A) (hg : Gl X x) (hm : X.mg x = some (.ref C)) (U : ClmC X.K C m f) (hb : Binds X.K fd ps []) (tk : Takes X W)
    (ha : PA X (e :: es) (LA X.K (WE W) tr)) (hdb : (x == ("__debug__" : Str)) = false) (hline : (apos.endLine == pos.line) = true) (hbase : attributeBase (.Name x p) m X.env (eval (.Name x p) X.env) = eval (.Name x p) X.env)
    (few : methodCallForm ((e :: es).length + ([] : List Keyword).length) (backTo pos (starEach (e :: es) X.env)) (backToKw pos (keywordEach [] X.env)) = true)
    (he : starEach (e :: es) X.env = (false, eval e X.env) :: starEach es X.env) (hpl : (backTo pos (starEach es X.env)).any (·.1) = false) :
    PE X (.Call (.Attribute (.Name x p) m apos) (e :: es) [] pos) (LE X.K (WE W) (wCall sp tr)) := by
  refine PE.of ?_ fun σ H Q h => call_imp h
  constructor
  intro pins s σ H Q I h
  have at_pos : methodCallPos true (.Name x p) X.env apos pos = pure pos := by unfold methodCallPos; simp [hline]
  rw [arm_eval_Call, hbase]
  refine wpAny_bind (ld_glob I hg hm ?_ hdb)
  refine wpAny_bind (wpAny_standAt ?_)
  unfold methodCall
  rw [few]
  refine wpAny_bind (wpAny_holding (PySem.W.method_cls I.kIn U.ga (PySem.W.cls_value I.kIn U.rd U.at_ U.hd ?_)))
  refine wpAny_bind (wpAny_of_eq at_pos ?_)
  show wpAny _ _ (callWith pos (Value.ref f) [] (backTo pos (starEach (e :: es) X.env)) []) _ _ _
  refine PySem.W.callWith_K (h₀ := X.base) I.ok.mod.kin U.kp (thn (ha.run pos pins _ σ H _ (I.tok _) h) ?_) he hpl
  rintro us s1 ⟨vs, H1, I1, r, q⟩
  exact ⟨I1.kIn, F.at_ gu hr hb tk I1 r q⟩

/-! ### methods of lists -/
/-- a thing of the kind whose method is called -/
def isKd (T : String) (g : GH) (r : R) : Prop := match r with
  | .v (.str _) => T = "str"
  | r => T = "list" ∧ ∃ xs, lstOf g r xs
def fMt (T : String) (f : R → List D → GH → QK → Prop) (ta : TD) (tr : TAD) : TD := fun ρ g Q W => ta ρ g (fun r g1 => isKd T g1 (.v r.fz) ∧ tr ρ g1 (fun ds g2 => f (.v r.fz) ds g2 Q) W) W
end
inductive Mth | append | popAt | pop | clear | extend | count | index | join | split | partition | upper
/-- whose -/
def Mth.kd : Mth → String
  | .join | .split | .partition | .upper => "str"
  | _ => "list"
def Mth.nm : Mth → Str
  | .append => "append" | .popAt | .pop => "pop" | .clear => "clear" | .extend => "extend" | .count => "count" | .index => "index" | .join => "join" | .split => "split" | .partition => "partition" | .upper => "upper"
def Mth.id : Mth → String
  | .append => "list.append" | .popAt | .pop => "list.pop" | .clear => "list.clear" | .extend => "list.extend" | .count => "list.count" | .index => "list.index" | .join => "str.join" | .split => "str.split" | .partition => "str.partition" | .upper => "str.upper"
def Mth.f : Mth → R → List D → GH → QK → Prop
  | .append => fun r ds g Q => match r, ds with | .v (.ref p), [d] => ∃ xs, g p = some (.lst xs) ∧ xs.length < sizeLine ∧ Q (.v .non) (gup g p (.lst (xs ++ [d]))) | _, _ => False
  | .popAt => fun r ds g Q => match r, ds with | .v (.ref p), [.int i] => ∃ xs k y, g p = some (.lst xs) ∧ -(2 ^ 63) ≤ i ∧ i < 2 ^ 63 ∧ seqIndex? i xs.length = some k ∧ xs[k]? = some y ∧ Q (.v y) (gup g p (.lst (xs.eraseIdx k))) | _, _ => False
  | .pop => fun r ds g Q => match r, ds with | .v (.ref p), [] => ∃ xs y, g p = some (.lst xs) ∧ xs[xs.length - 1]? = some y ∧ Q (.v y) (gup g p (.lst xs.dropLast)) | _, _ => False
  | .clear => fun r ds g Q => match r, ds with | .v (.ref p), [] => ∃ xs, g p = some (.lst xs) ∧ Q (.v .non) (gup g p (.lst [])) | _, _ => False
  | .extend => fun r ds g Q => match r, ds with | .v (.ref p), [d] => ∃ xs ys, g p = some (.lst xs) ∧ lstOf g (.v d) ys ∧ xs.length + ys.length ≤ sizeLine ∧ Q (.v .non) (gup g p (.lst (xs ++ ys))) | _, _ => False
  | .count => fun r ds g Q => match ds with | [d] => ∃ xs, lstOf g r xs ∧ okDs 63 xs = true ∧ okD 64 d = true ∧ Q (.v (.int (xs.countP fun y => deq y d : Nat))) g | _ => False
  | .index => fun r ds g Q => match ds with | [d] => ∃ xs j, lstOf g r xs ∧ okDs 63 xs = true ∧ okD 64 d = true ∧ idxD d xs = some j ∧ Q (.v (.int (j : Nat))) g | _ => False
  | .join => fun r ds g Q => match r, ds with | .v (.str a), [d] => ∃ ys : List Str, (lstOf g (.v d) (ys.map .str) ∨ tupOf (.v d) (ys.map .str)) ∧ (ys.map (·.length)).sum + ys.length * a.length ≤ 16777216 ∧ Q (.v (.str (Txt.join a ys))) g | _, _ => False
  | .split => fun r ds g Q => match r, ds with | .v (.str a), [.str b] => (b.length == 0) = false ∧ a.length + 2 ≤ sizeLine ∧ Q (.tl ((Txt.split a b).map .str)) g | _, _ => False
  | .partition => fun r ds g Q => match r, ds with | .v (.str a), [.str b] => (b.length == 0) = false ∧ a.length ≤ sizeLine ∧ Q (.v (.tup [.str (Txt.partition a b).1, .str (Txt.partition a b).2.1, .str (Txt.partition a b).2.2])) g | _, _ => False
  | .upper => fun r ds g Q => match r, ds with | .v (.str a), [] => a.length ≤ 5592405 ∧ Q (.v (.str (Txt.upper a))) g | _, _ => False
def MtOk (K : PySem.W.Frag) (f : R → List D → GH → QK → Prop) (r : V → List V → Hp → VK → Prop) : Prop :=
  ∀ x (d : R) xs ds B H g Q0 Q, Rep K (hide H B) g x d.fz → Reps K (hide H B) g xs ds → Vw K B H g → f d ds g Q0 → Cont K B H g Q0 Q → r x xs H Q
theorem trk_lst {K : PySem.W.Frag} {B : List Addr} {H : Hp} {g : GH} {p : Addr} {xs : List D} (w : Vw K B H g) (h : g p = some (.lst xs)) : ∃ vs, H p = some (.lst vs) ∧ Reps K (hide H B) g vs xs := by
  obtain ⟨u, hu, r⟩ := w.rg p _ h
  cases r with
  | lst r => exact ⟨_, (of_hide hu).1, r⟩
theorem Cont.write {K : PySem.W.Frag} {B : List Addr} {H : Hp} {g : GH} {Q0 : QK} {Q : VK} {p : Addr} {xs zs : List D} {vs ws : List V} {d : D} {v : V} (c : Cont K B H g Q0 Q) (w : Vw K B H g) (hp : H p = some (.lst vs)) (gp : g p = some (.lst xs))
    (q : Q0 (.v d) (gup g p (.lst zs))) (rz : Reps K (hide H B) g ws zs) (rd : Rep K (hide H B) g v d) : Q v (upd H p (.lst ws)) := by
  obtain ⟨f, w'⟩ := Fr.writeV (u' := .lst ws) (o' := .lst zs) hp gp (fun _ e => by cases e) (fun _ _ e => by cases e) w (.lst rz)
  exact c (.v d) _ _ _ q (rd.fv w f) w' f .no
theorem Mth.ok (X : Cx) (hu : X.A.units + 65 < cLine) (m : Mth) : ∃ r, MtR X m.id r ∧ MtOk X.K m.f r := by
  cases m with
  | join => exact ⟨_, mt_join, fun x d xs ds B H g Q0 Q rx rs w q c => by
      unfold Mth.f at q
      dsimp only at q
      split at q
      · obtain ⟨ys, hl, hz, q⟩ := q
        match rs with
        | .cons r .nil =>
          obtain ⟨a, vs, rfl, rv, h⟩ := rd_lt w r hl
          obtain rfl := rv.str_inv
          refine ⟨_, a, ys, str_of rx, rfl, ?_, hz, c.here q (.str _) w⟩
          rcases h with h | ⟨h, _⟩
          · exact .inl (.inl (.inl h))
          · exact .inr h
      · exact q.elim⟩
  | split => exact ⟨_, mt_split, fun x d xs ds B H g Q0 Q rx rs w q c => by
      unfold Mth.f at q
      dsimp only at q
      split at q
      · match rs with
        | .cons r .nil =>
          cases r
          exact ⟨_, _, str_of rx, rfl, q.1, q.2.1, fun p hp => c.newL q.2.2 (Reps.strs _) w p hp⟩
      · exact q.elim⟩
  | partition => exact ⟨_, mt_partition, fun x d xs ds B H g Q0 Q rx rs w q c => by
      unfold Mth.f at q
      dsimp only at q
      split at q
      · match rs with
        | .cons r .nil =>
          cases r
          exact ⟨_, _, str_of rx, rfl, q.1, q.2.1, fun p hp => c.newT q.2.2 (.cons (.str _) (.cons (.str _) (.cons (.str _) .nil))) w p hp⟩
      · exact q.elim⟩
  | upper => exact ⟨_, mt_upper, fun x d xs ds B H g Q0 Q rx rs w q c => by
      unfold Mth.f at q
      dsimp only at q
      split at q
      · match rs with
        | .nil => exact ⟨_, str_of rx, rfl, q.1, c.here q.2 (.str _) w⟩
      · exact q.elim⟩
  | count => exact ⟨_, mt_countD hu, fun x d xs ds B H g Q0 Q rx rs w q c => by
      unfold Mth.f at q
      dsimp only at q
      split at q
      · obtain ⟨ys, ha, k1, k2, q⟩ := q
        match rs with
        | .cons r .nil =>
          obtain ⟨h1, h2⟩ := fInD_dp w.un rx.un ha k1
          obtain ⟨a, vs, rfl, _, _⟩ := lstOf.rep w.rg rx ha
          exact ⟨a, _, _, _, rfl, rfl, h1, r.un.dp 64 k2, h2, okD_shaped k2, by rw [pds_count]; exact c.here q (.int _) w⟩
      · exact q.elim⟩
  | index => exact ⟨_, mt_indexD hu, fun x d xs ds B H g Q0 Q rx rs w q c => by
      unfold Mth.f at q
      dsimp only at q
      split at q
      · obtain ⟨ys, j, ha, k1, k2, hj, q⟩ := q
        match rs with
        | .cons r .nil =>
          obtain ⟨h1, h2⟩ := fInD_dp w.un rx.un ha k1
          obtain ⟨a, vs, rfl, _, _⟩ := lstOf.rep w.rg rx ha
          obtain ⟨⟨z, e1, e2⟩, e3⟩ := idxD_spec hj
          exact ⟨a, _, _, _, j, _, rfl, rfl, h1, r.un.dp 64 k2, h2, okD_shaped k2, by rw [pds_get, e1]; rfl, e2, fun m z' hm hz => by
            rw [pds_get] at hz
            cases e : ys[m]? with
            | none => rw [e] at hz; cases hz
            | some y => rw [e] at hz; cases hz; exact e3 m y hm e, c.here q (.int _) w⟩
      · exact q.elim⟩
  | append => exact ⟨_, mt_append, fun x d xs ds B H g Q0 Q rx rs w q c => by
      unfold Mth.f at q
      dsimp only at q
      split at q
      · obtain ⟨ys, hg, hz, q⟩ := q
        cases rx
        obtain ⟨vs, hp, rv⟩ := trk_lst w hg
        match rs with
        | .cons r .nil => exact ⟨_, vs, _, rfl, rfl, hp, by rw [rv.length]; exact hz, c.write w hp hg q (rv.append (.one r)) .non⟩
      · exact q.elim⟩
  | popAt => exact ⟨_, mt_popAt, fun x d xs ds B H g Q0 Q rx rs w q c => by
      unfold Mth.f at q
      dsimp only at q
      split at q
      · obtain ⟨ys, k, y, hg, h1, h2, hk, hy, q⟩ := q
        cases rx
        obtain ⟨vs, hp, rv⟩ := trk_lst w hg
        match rs with
        | .cons r .nil =>
          cases r
          obtain ⟨v, hv, ry⟩ := rv.get hy
          exact ⟨_, vs, _, k, v, rfl, rfl, hp, h1, h2, by rw [rv.length]; exact hk, hv, c.write w hp hg q (rv.eraseIdx k) ry⟩
      · exact q.elim⟩
  | pop => exact ⟨_, mt_pop, fun x d xs ds B H g Q0 Q rx rs w q c => by
      unfold Mth.f at q
      dsimp only at q
      split at q
      · obtain ⟨ys, y, hg, hy, q⟩ := q
        cases rx
        obtain ⟨vs, hp, rv⟩ := trk_lst w hg
        match rs with
        | .nil =>
          obtain ⟨v, hv, ry⟩ := rv.get hy
          exact ⟨_, vs, v, rfl, rfl, hp, by rw [rv.length]; exact hv, c.write w hp hg q rv.dropLast ry⟩
      · exact q.elim⟩
  | clear => exact ⟨_, mt_clear, fun x d xs ds B H g Q0 Q rx rs w q c => by
      unfold Mth.f at q
      dsimp only at q
      split at q
      · obtain ⟨ys, hg, q⟩ := q
        cases rx
        obtain ⟨vs, hp, rv⟩ := trk_lst w hg
        match rs with
        | .nil => exact ⟨_, vs, rfl, rfl, hp, c.write w hp hg q .nil .non⟩
      · exact q.elim⟩
  | extend => exact ⟨_, mt_extend, fun x d xs ds B H g Q0 Q rx rs w q c => by
      unfold Mth.f at q
      dsimp only at q
      split at q
      · obtain ⟨ys, zs, hg, hl, hz, q⟩ := q
        cases rx
        obtain ⟨vs, hp, rv⟩ := trk_lst w hg
        match rs with
        | .cons r .nil =>
          obtain ⟨b, ws, rfl, hb, rb⟩ := hl.rep w.rg (r := .v _) r
          exact ⟨_, b, vs, ws, rfl, rfl, hp, (of_hide hb).1, by rw [rv.length, rb.length]; exact hz, c.write w hp hg q (rv.append rb) .non⟩
      · exact q.elim⟩
theorem Mth.slot : ∀ m : Mth, Slot m.kd m.nm m.id
  | .append => PySem.F.slot_list_append
  | .popAt | .pop => PySem.F.slot_list_pop
  | .clear => PySem.F.slot_list_clear
  | .extend => PySem.F.slot_list_extend
  | .count => PySem.F.slot_list_count
  | .index => PySem.F.slot_list_index
  | .join => PySem.F.slot_str_join
  | .split => PySem.F.slot_str_split
  | .partition => PySem.F.slot_str_partition
  | .upper => PySem.F.slot_str_upper
theorem Mth.ty : ∀ m : Mth, typeOf (.builtin m.id) = pure (.type "method_descriptor")
  | .append => PySem.F.type_list_append
  | .popAt | .pop => PySem.F.type_list_pop
  | .clear => PySem.F.type_list_clear
  | .extend => PySem.F.type_list_extend
  | .count => PySem.F.type_list_count
  | .index => PySem.F.type_list_index
  | .join => PySem.F.type_str_join
  | .split => PySem.F.type_str_split
  | .partition => PySem.F.type_str_partition
  | .upper => PySem.F.type_str_upper
theorem Mth.pa : ∀ m : Mth, PlainAttrs m.kd
  | .append | .popAt | .pop | .clear | .extend | .count | .index => PySem.F.plainAttrs_list
  | .join | .split | .partition | .upper => PySem.F.plainAttrs_str
section
variable {X : Cx} {p pos apos : Pos} {e o : Expr} {es : List Expr} {tr : TAD} {ta tb tv : TD} {W : L2.WX} {E : L2.St → XK}
theorem mt_imp {K : PySem.W.Frag} {T : String} {f : R → List D → GH → QK → Prop} {r : V → List V → Hp → VK → Prop} (hr : MtOk K f r) {σ : L2.St} {H : Hp} {Q : VK} (h : LE K E (fMt T f ta tr) σ H Q) : tBM K T r (LE K E ta) (LA K E tr) σ H Q := by
  obtain ⟨B, ρ, g, Q0, W0, rs, rg, t, c, xc⟩ := h
  refine ⟨B, ρ, g, _, W0, rs, rg, t, fun d g1 x H1 ⟨hk, hb⟩ rd w1 f1 _ => ?_, xc⟩
  have rd' : Rep K (hide H1 B) g1 x (R.v d.fz).fz := rd
  have ty : tyV K T x H1 := by
    generalize d.fz = z at hk rd
    unfold isKd at hk
    split at hk
    · rename_i e
      cases e
      cases rd
      exact hk
    · obtain ⟨rfl, zs, hl⟩ := hk
      obtain ⟨a, vs, rfl, ha, _⟩ := lstOf.rep w1.rg (r := .v z) rd hl
      exact .inl ⟨rfl, vs, .inl (.inl (of_hide ha).1)⟩
  exact ⟨ty, B, ρ, g1, _, W0, rs.fv rg f1, w1, hb, fun ds g2 ys H2 hf re w2 f2 => hr _ (.v d.fz) ys ds B H2 g2 Q0 Q (rd.fv w1 f2) re w2 hf (c.after (f1.trans f2)), xc.after f1⟩
/-- o[i] = e, o a list that is tracked -/
def wPut (to ti te : TD) : TSD := fun D ρ g => te ρ g (fun r g1 => to ρ g1 (fun x g2 => ti ρ g2 (fun y g3 => match x, y with
  | .v (.ref p), .v (.int i) => ∃ xs j, g3 p = some (.lst xs) ∧ ixN xs.length i = some j ∧ D.nx ρ (gup g3 p (.lst (xs.set j r.fz)))
  | _, _ => False) (fun x g4 => D.ex x ρ g4)) (fun x g4 => D.ex x ρ g4)) (fun x g4 => D.ex x ρ g4)
theorem put_imp {K : PySem.W.Frag} {W : L2.WX} {to ti te : TD} {D : Ends} {σ : L2.St} {H : Hp} (h : LS K W (wPut to ti te) D σ H) : tAsg (LE K (WE W) te) (gSub (LE K (WE W) to) (LE K (WE W) ti) rSetL) D σ H := by
  obtain ⟨B, ρ, g, D0, rs, w, q, k⟩ := h
  refine ⟨B, ρ, g, _, _, rs, w, q, fun r g1 v H1 hq rv w1 f1 _ => ?_, k.xc rs w⟩
  refine ⟨B, ρ, g1, _, _, rs.fv w f1, w1, hq, fun x g2 ov H2 hq rx w2 f2 _ => ?_, (k.after f1).xc (rs.fv w f1) w1⟩
  refine ⟨B, ρ, g2, _, _, rs.fv w (f1.trans f2), w2, hq, fun y g3 iv H3 hq ry w3 f3 _ => ?_, (k.after (f1.trans f2)).xc (rs.fv w (f1.trans f2)) w2⟩
  dsimp only at hq
  split at hq
  · obtain ⟨xs, j, hg, hj, hq⟩ := hq
    have rx3 := rx.fv w2 f3
    cases rx3
    obtain ⟨vs, hp, rvs⟩ := trk_lst w3 hg
    have f123 := f1.trans (f2.trans f3)
    obtain ⟨f4, w4⟩ := Fr.writeV (u' := .lst (vs.set j v)) (o' := .lst (xs.set j r.fz)) hp hg (fun _ e => by cases e) (fun _ _ e => by cases e) w3 (.lst (rvs.set (rv.fv w1 (f2.trans f3)) j))
    exact ⟨_, vs, _, j, rfl, int_of ry, hp, by rw [rvs.length]; exact hj, k.nx ρ _ σ _ hq (rs.fv w (f123.trans f4)) w4 (f123.trans f4)⟩
  · exact hq.elim
end

/-! ### a def by its body -/
/-- what a body hands back: a list that it made itself may be given as a new one -/
def RetOk (g0 : GH) (Q : QK) : QK := fun r g' => ∃ r' g'', (∀ b o, g'' b = some o → g' b = some o) ∧
  (r' = r ∨ ∃ p ds, r = .v (.ref p) ∧ r' = .tl ds ∧ g' p = some (.lst ds) ∧ g0 p = none ∧ g'' p = none) ∧ Q r' g''
def XRet (W : XKD) : Exn → DEnv → GH → Prop := fun x _ g' => ∃ g'', (∀ b o, g'' b = some o → g' b = some o) ∧ W x g''
def bodyEnds (g : GH) (Q : QK) (W : XKD) : DEnds := ⟨fun _ g' => RetOk g Q (.v .non) g', RetOk g Q, fun _ _ => False, XRet W⟩
def startD (n : Nat) (ds : List D) : DEnv := ds.map some ++ List.replicate (n - ds.length) none
theorem repS_start {K : PySem.W.Frag} {H : Hp} {g : GH} {N : List Str} {vs : List V} {ds : List D} (r : Reps K H g vs ds) : RepS K H g (L2.start N vs) (startD N.length ds) := by
  unfold L2.start startD
  rw [r.length]
  refine ⟨by simp [r.length], fun i d h => ?_⟩
  by_cases hi : i < ds.length
  · rw [List.getElem?_append_left (by simpa using hi), List.getElem?_map] at h
    cases e : ds[i]? with
    | none => rw [e] at h; cases h
    | some d' =>
      rw [e] at h
      cases h
      obtain ⟨v, hv, q⟩ := r.get e
      exact ⟨v, by rw [List.getElem?_append_left (by rw [List.length_map, r.length]; exact hi), List.getElem?_map, hv]; rfl, q⟩
  · rw [List.getElem?_append_right (by simpa using hi), List.getElem?_replicate] at h
    split at h <;> cases h
theorem rep_less {K : PySem.W.Frag} {H : Hp} {g g' : GH} (s : ∀ b o, g' b = some o → g b = some o) {v : V} {d : D} (x : Rep K H g v d) : Rep K H g' v d := x.mono (fun _ _ h => h) (fun _ _ _ h => h) fun _ _ h k => ⟨h, none_less s k⟩
theorem Cont.ret {K : PySem.W.Frag} {B : List Addr} {H : Hp} {g : GH} {Q0 : QK} {Q : VK} (c : Cont K B H g Q0 Q) : Cont K B H g (RetOk g Q0) Q := by
  rintro r g' v H' ⟨r', g'', s, h, q⟩ rr w f fr
  rcases h with rfl | ⟨p, ds, rfl, rfl, hp, h0, hn⟩
  · refine c _ g'' v H' q (rep_less s rr) (w.less s) (f.trans (Fr.less s)) fun ds e => ?_
    obtain ⟨a, vs, H0, e1, e2, e3, e4, e5, e6⟩ := fr ds e
    refine ⟨a, vs, H0, e1, e2, e3, e4, fun b o z => ?_, e6.monoR fun _ _ x => rep_less s x⟩
    obtain ⟨u, hu, r⟩ := e5 b o (s b o z)
    exact ⟨u, hu, r.mono fun _ _ x => rep_less s x⟩
  · cases rr
    obtain ⟨u, hu, ru⟩ := w.rg p _ hp
    cases ru with
    | @lst vs _ ru =>
      have hH : H p = none := by
        cases e : H p with
        | none => rfl
        | some o =>
          have := (f.keep p o e h0).2
          rw [hp] at this; cases this
      have hB := (of_hide hu).2
      -- all else as it is seen without the object at p
      have m : ∀ v d, Rep K (hide H' B) g' v d → Rep K (hide H' (p :: B)) g'' v d := fun v d x => by
        have k : ∀ b o, hide H' B b = some o → b ≠ p → hide H' (p :: B) b = some o := fun b o h z => by
          obtain ⟨h1, h2⟩ := of_hide h
          rw [hide_out fun m => (List.mem_cons.mp m).elim z h2]; exact h1
        exact x.mono (fun a ws h => k a _ h fun e => by rw [e, hu] at h; cases h) (fun a o u h => k a _ h fun e => by rw [e, hu] at h; cases h) fun a ws h z => ⟨k a _ h (fun e => nomatch (show (some (DO.lst ds) : Option DO) = none by rw [← hp, ← e]; exact z)), none_less s z⟩
      have h0' : ∀ b w, hide H' (p :: B) b = some w → b ≠ p ∧ hide H' B b = some w := fun b w h => by
        obtain ⟨h1, h2⟩ := of_hide h
        exact ⟨fun e => h2 (by rw [e]; exact List.mem_cons_self), by rw [hide_out fun m => h2 (List.mem_cons_of_mem _ m)]; exact h1⟩
      have un : ∀ v d, Rep K (hide H' (p :: B)) g'' v d → Rep K (hide H' B) g'' v d := fun v d x => x.mono (fun a ws h => (h0' _ _ h).2) (fun a o u h => (h0' _ _ h).2) fun a ws h z => ⟨(h0' _ _ h).2, z⟩
      refine c (.tl ds) g'' _ H' q (.lst hu hn (ru.monoR fun v d x => un v d (m v d x))) (w.less s) (f.trans (Fr.less s)) fun ds' e => ?_
      cases e
      refine ⟨p, vs, hide H' (p :: B), rfl, hH, (of_hide hu).1, h0', fun b o z => ?_, ru.monoR m⟩
      obtain ⟨u', hu', r⟩ := w.rg b o (s b o z)
      have hb : b ≠ p := fun e => by rw [e, hn] at z; cases z
      refine ⟨u', ?_, r.mono m⟩
      obtain ⟨h1, h2⟩ := of_hide hu'
      rw [hide_out fun m => (List.mem_cons.mp m).elim hb h2]; exact h1
theorem ExOk.less {K : PySem.W.Frag} {H : Hp} {g g' : GH} (s : ∀ b o, g' b = some o → g b = some o) {x : Exn} {c : Value} {d : Option Addr} (h : ExOk K H g x c d) : ExOk K H g' x c d := by
  cases h with
  | plain h => exact .plain h
  | dict h h1 h2 => exact .dict h h1 (none_less s h2)
section
variable {P : Program} {w : World} {K : PySem.W.Frag} {mg : Str → Option Value} {base : Heap}
/-- THE RULE: a def keeps its promise by its body -/
theorem fn_ok {x qual : Str} {pm : Arguments} {bd : List Stmt} {sc : Scope} {f : Addr} {fd : FuncData} {N ps : List Str} {k : Nat} {sp : GSp} {t : TSD} (F : FunD K x qual pm bd sc [] [] f fd) (S : FnScope N ps sc) (len : ∀ ds g Q W, sp ds g Q W → ds.length = ps.length)
    (hb : ∀ (cdv : Value) (A : Around) (outer : List PySem.Env) (s : Shared) (H : Hp) (Z : XK), A.guards = some [] → Room k (A.deeper (PyProof.Rows.envOfC qual sc s.heap.objs.size f cdv)) →
      PSs (cxOf (L2.CX P w) P w K mg base N qual sc f cdv A outer s H Z) bd (LS K (fun cls d _ H => Z cls d H) t))
    (hw : ∀ ds g Q W, sp ds g Q W → t (bodyEnds g Q W) (startD N.length ds) g) : FnG P w K mg base (k + 1) f fd ps sp := by
  obtain ⟨oc, od, dV, kV, doc, pm', an, cdv, ct, osl, rfl, lk, hcd, _, _⟩ := F.ex
  refine ⟨len, fun A outer s H args us vs Q Z gu hr e0 hbd r h => ?_⟩
  obtain ⟨B, g, ds, Q0, W0, w0, rr, hs, c, xc⟩ := h
  have hl : vs.length = ps.length := by rw [rr.length]; exact len ds g Q0 W0 hs
  have KX : K.In s.heap := e0.mod.kin.keeps fun b o e => (e0.bs b o e).1
  have kinds : ∀ y ∈ ps.zip us, sc.names.lookup y.1 = some .local ∨ (sc.names.lookup y.1 = some .cell ∧ ((PySem.cellsFrom (s.heap.objs.size + 1) sc.names []).lookup y.1).isSome = true) := by
    rintro ⟨n, v⟩ hy
    exact (S.par n (List.of_mem_zip hy).1).imp id fun q => ⟨q, PySem.W.cellsFrom_some _ _ _ (.inl q)⟩
  refine codeAny_call_function hr.depth (KX _ _ lk) rfl S.co S.gen rfl (PySem.W.codeRec_of KX hcd) (hbd _ _ _ _ ?_)
  refine wpAny_newFunctionEnv_cells S.kind kinds ?_
  rintro _ rfl s1 x1
  refine ⟨(e0.mod.nolimit.keeps fun b o e => (e0.bs b o e).1).keeps x1.toInCall.keep, codeAny_func ?_⟩
  have I := inv_start (CX := L2.CX P w) (E := Z) S hr.hd e0 hl r x1
  refine wpAny_mono ((hb cdv A outer s H Z gu (hr.deeper _)).run [] s1 _ H ⟨fun _ H' => Q .non H', Q, fun _ _ => False, fun _ _ => False⟩ I ?_) ?_ fun _ _ q => q
  · refine ⟨B, startD N.length ds, g, bodyEnds g Q0 W0, repS_start rr, w0, hw ds g Q0 W0 hs, ⟨fun ρ' g' σ' H' q rs w' f => ?_, c.ret, fun _ _ _ _ q => q.elim, fun x ρ' g' cls d σ' H' ⟨g'', s, q⟩ xo rs w' f => ?_⟩⟩
    · exact c.ret (.v .non) g' .non H' q .non w' f .no
    · exact xc x g'' cls d H' q (xo.less s) (w'.less s) (f.trans (Fr.less s))
  · intro fl s2 q
    match fl, q with
    | .next, q =>
      obtain ⟨σ', H', J, q⟩ := q
      exact ⟨.non, H', J.os, J.bare, J.base, J.hok, rfl, q⟩
    | .brk, q | .cont, q => obtain ⟨_, _, _, q⟩ := q; exact q.elim
    | .ret u, q =>
      obtain ⟨v, σ', H', J, rv, q⟩ := q
      exact ⟨v, H', J.os, J.bare, J.base, J.hok, rv, q⟩
end

/-! ### the law's own call -/
theorem law_end {P : Program} {w : World} {K : PySem.W.Frag} {mg mb : Str → Option Value} {k : Nat} {fa a : Addr} {fd : FuncData} {x : Str} {sp : GSp} {s1 : Shared} {vs : List Value} {ns : List Int} (KX : K.In s1.heap) (hns : s1.heap.Ns mainGlobals mg) (hb : s1.heap.Ns builtinsNs mb)
    (hbb : ∀ x : Str, x ≠ "__name__" → mb x = bootBuiltins x) (hlim : s1.heap.NoLimit) (hg : s1.gens = #[]) (ha : s1.heap.get? a = some { cls := .type "list", data := .seq vs.toArray }) (hi : PyProof.Rows.IntsAre vs ns) (hl : ns.length ≤ sizeLine) (hr : Room k callerA)
    (F : ∀ base : Heap, K.In base → base.Ns mainGlobals mg → FnG P w K mg base k fa fd [x] sp) (hbind : ∀ (s : Shared) (u : Value), BindsTo s fd ⟨[u], []⟩ [(x, u)])
    (hsp : sp [.rl (ns.map .int)] (fun _ => none) (fun r _ => r = .v (.bl true)) fun _ _ => False) :
    codeAny (model P w) callerA (.call (.ref fa) ⟨[.ref a], []⟩) (fun r s' => r = .ok (.ret (.bool true)) ∧ OldK s1.heap s'.heap ∧ s'.os = s1.os ∧ PyProof.Rows.AllBare s'.gens) s1 := by
  have rv := vals_ints hi
  -- whatever is tracked, if it is no more than the script
  suffices go : ∀ H : Hp, (∀ b u, H b = some u → b = a ∧ ∃ o, u = .frz o (.lst (ns.map V.int))) → (∀ b, H b ≠ none → K.lookup b = none) → HOk P w H s1.heap → SqR K H a (ns.map V.int) →
      codeAny (model P w) callerA (.call (.ref fa) ⟨[.ref a], []⟩) (fun r s' => r = .ok (.ret (.bool true)) ∧ OldK s1.heap s'.heap ∧ s'.os = s1.os ∧ PyProof.Rows.AllBare s'.gens) s1 by
    cases hk : K.lookup a with
    | some o =>
      have e := KX a o hk
      rw [ha] at e; cases e
      refine go (fun _ => none) (fun _ _ z => nomatch z) (fun _ z => absurd rfl z) (fun _ _ z => nomatch z) (.inr ⟨_, vs.toArray, _, hk, rfl, rfl, rfl, ?_, by simpa using rv⟩)
      rw [List.size_toArray, hi.length]; exact hl
    | none =>
      let ob : Obj := { cls := .type "list", data := .seq vs.toArray }
      have at_a : ∀ b u, (if b = a then some (HO.frz ob (.lst (ns.map V.int))) else none) = some u → b = a ∧ u = .frz ob (.lst (ns.map V.int)) := fun b u z => by
        split at z
        · rename_i e; cases z; exact ⟨e, rfl⟩
        · cases z
      refine go (fun b => if b = a then some (.frz ob (.lst (ns.map V.int))) else none) (fun b u z => ⟨(at_a b u z).1, ob, (at_a b u z).2⟩) (fun b z => ?_) (fun b u z => ?_) (.inl ⟨ob, if_pos rfl⟩)
      · cases e : (if b = a then some (HO.frz ob (.lst (ns.map V.int))) else none) with
        | none => exact absurd e z
        | some u => rw [(at_a b u e).1]; exact hk
      · obtain ⟨rfl, rfl⟩ := at_a b u z
        exact ⟨ha, by rw [List.length_map]; exact hl, vs, _, rv, ha⟩
  intro H hO hK hok hS
  have base_of : ∀ {b : Addr} {o : Obj}, s1.heap.get? b = some o → (∀ z n, o.data ≠ .seq z n) → (hidT s1.heap H).get? b = some o := fun {b o} e d => hidT_get e (by
    cases q : H b with
    | none => rfl
    | some u =>
      obtain ⟨rfl, _⟩ := hO b u q
      rw [ha] at e; cases e
      exact absurd rfl (d _ _))
  have ns_of : ∀ {b : Addr} {m : Str → Option Value}, s1.heap.Ns b m → (hidT s1.heap H).Ns b m := by
    rintro b m ⟨o, es, ep, e, d, r⟩
    exact ⟨o, es, ep, base_of e (fun z n q => by rw [d] at q; cases q), d, r⟩
  have hKb : K.In (hidT s1.heap H) := fun b o e => hidT_get (KX b o e) (by
    cases q : H b with
    | none => rfl
    | some u =>
      have := hK b (by rw [q]; simp)
      rw [this] at e; cases e)
  have e0 : Env0 P w K mg (hidT s1.heap H) callerA [] s1 H := by
    obtain ⟨mc, l1, l2⟩ := hlim
    exact ⟨rfl, ⟨hKb, ns_of hns, ⟨mb, ns_of hb, hbb⟩, ⟨mc, ns_of l1, l2⟩⟩, fun b o e => of_hidT e, Nat.le_of_eq (hidT_size _ _), trivial, fun b z => absurd (show b ∈ ([] : List Addr) from z) (by simp), hok, .of_eq hg⟩
  have w0 : Vw K [] H (fun _ => none) := ⟨fun b z => absurd z (by simp), fun _ _ z => nomatch z⟩
  have hH : hide H [] = H := by funext b; exact hide_out (by simp)
  refine codeAny_mono ((F _ hKb (ns_of hns)).go callerA [] s1 H ⟨[.ref a], []⟩ [.ref a] [.ref a] (fun v H' => v = .bl true) (fun _ _ _ => False) rfl hr e0 (hbind s1 _) (.cons rfl .nil)
    ⟨[], fun _ => none, _, _, _, w0, .cons (.rl (by rw [hH]; exact hS) (Reps.ints ns)) .nil, hsp, fun d g' v H' q r _ _ _ => by subst q; exact bl_of r, fun _ _ _ _ _ q => q.elim⟩) fun r s2 q => ?_
  match r, q with
  | .error x, q =>
    obtain ⟨_, _, _, _, _, _, _, _, _, _, _, _, z⟩ := q
    exact z.elim
  | .ok .next, q | .ok .brk, q | .ok .cont, q => exact False.elim q
  | .ok (.ret u), q =>
    obtain ⟨v, H', os, bare, un, hok', r', q⟩ := q
    subst q
    obtain rfl : u = Value.bool true := r'
    refine ⟨rfl, OldK.of_keep fun b o e => ?_, os, bare⟩
    cases q : H b with
    | none => exact un.keep b o e q (fun z => absurd (show b ∈ ([] : List Addr) from z) (by simp)) (by simp)
    | some u =>
      obtain ⟨rfl, ob, rfl⟩ := hO b u q
      have e1 := (hok _ _ q).1
      have e2 := (hok' _ _ (un.frzs _ ob _ q)).1
      rw [e] at e1; cases e1
      exact e2
/-- the row's end: F gives the written part, the law's function and its promise -/
theorem walk_end {l : PySem.W.OpenLaw} {n k : Nat} {q : Program} {loose : List Str} {XP : (Str → Option Value) → Heap → Prop} {YP : World → Heap → Prop} {d : DefRec} {x : Str} (hn : l.most = some n) (hn2 : n ≤ sizeLine) (hdf : d.params.defaults = []) (hr : Room k callerA)
    (F : ∀ (w : World) (mg : Str → Option Value) (fa : Addr) (h : Heap), YP w h → h.Ns mainGlobals mg → mg d.name = some (.ref fa) →
      ∃ (K : PySem.W.Frag) (fd : FuncData) (sp : GSp), K.In h ∧ (∀ (s : Shared) (u : Value), BindsTo s fd ⟨[u], []⟩ [(x, u)]) ∧
        (∀ ns : List Int, ns.length ≤ n → sp [.rl (ns.map .int)] (fun _ => none) (fun r _ => r = .v (.bl true)) fun _ _ => False) ∧ ∀ base : Heap, K.In base → base.Ns mainGlobals mg → FnG l.prog w K mg base k fa fd [x] sp) :
    PySem.W.WalkO q loose XP YP l.row.toRowW d [] (fun f vs => PySem.call f vs) := by
  refine Att.attach_call hn hdf ?_
  intro w s0 s1 mg mb fa o pm cd doc a vs ns G Y ho hd hcd hmg hobj hints hlen hg
  obtain ⟨K, fd, sp, KX, hb, hsp, hF⟩ := F w mg fa _ Y G.T.g hmg
  exact law_end KX G.T.g G.T.b G.T.builtins G.T.nolimit hg hobj hints (Nat.le_trans hlen hn2) hr hF hb (hsp ns hlen)
end G3
/-! G3q2: new dicts; stores into dicts -/
namespace G3
open PySem PySem.Spec PyProof.Rows L2
theorem upd_upd2 {H : Hp} {p : Addr} {u v : HO} : upd (upd H p u) p v = upd H p v := by
  funext b
  by_cases e : b = p
  · rw [e, upd_same, upd_same]
  · rw [upd_ne e, upd_ne e, upd_ne e]
/-- {x: b}, x a slot with a whole number -/
def wDis (i : Nat) (b : Bool) : TD := fun ρ g Q _ => match ρ[i]? with
  | some (some (.int n)) => ∀ p, g p = none → Q (.v (.ref p)) (gup g p (.dk [(.inl n, .bl b)]))
  | _ => False
/-- {} -/
def wDnK : TD := fun _ g Q _ => ∀ p, g p = none → Q (.v (.ref p)) (gup g p (.dk []))
/-- o[i] = e, o a dict -/
def wDput (to ti te : TD) : TSD := fun D ρ g => te ρ g (fun r g1 => to ρ g1 (fun x g2 => ti ρ g2 (fun y g3 => match x with
  | .v (.ref p) => (∃ kvs k, g3 p = some (.dk kvs) ∧ dKey y.fz = some k ∧ kvs.length < sizeLine ∧ D.nx ρ (gup g3 p (.dk (putD kvs k r.fz)))) ∨
      ∃ kvs k, g3 p = some (.dt kvs) ∧ y.fz = .tup (k.map .int) ∧ kvs.length < sizeLine ∧ D.nx ρ (gup g3 p (.dt (putD kvs (tK k) r.fz)))
  | _ => False) (fun x g4 => D.ex x ρ g4)) (fun x g4 => D.ex x ρ g4)) (fun x g4 => D.ex x ρ g4)
section
variable {X : Cx} {x : Str} {p p2 pos pos' : Pos} {k : Option Str} {e o i : Expr} {E : L2.St → XK} {W : L2.WX} {to ti te : TD}
theorem q_dis {n : Nat} {b : Bool} (h1 : PE X e (tVar n)) (h2 : PE X o (tC (.bl b))) : PE X (.Dict [some e] [o] pos) (LE X.K E (wDis n b)) :=
  PE.of (pe_disp (pps_cons h1 h2 pps_nil) rfl rfl (by simp) (by simp)) fun σ H Q ⟨B, ρ, g, Q0, W0, rs, w, t, c, xc⟩ => by
    unfold wDis at t
    split at t
    · rename_i m hm
      obtain ⟨v, hv, r⟩ := rs.at_ n _ hm
      obtain rfl := int_of r
      intro q hq
      refine ⟨_, hv, ?_⟩
      show (upd H q (.dK [])) q = _ ∧ _
      refine ⟨upd_same, [(.inl m, .bl b)], rfl, by simp, ?_⟩
      rw [upd_upd2]
      exact c.newO w hq (.dK (.cons (.bl b) .nil)) (t q)
    · exact t.elim
def wDnT : TD := fun _ g Q _ => ∀ p, g p = none → Q (.v (.ref p)) (gup g p (.dt []))
theorem q_dnT : PE X (.Dict [] [] pos) (LE X.K E wDnT) :=
  PE.of pe_dnewT fun σ H Q ⟨B, ρ, g, Q0, W0, rs, w, t, c, xc⟩ => fun q hq => c.newO w hq (.dT .nil) (t q)
theorem q_dnK : PE X (.Dict [] [] pos) (LE X.K E wDnK) :=
  PE.of pe_dnewK fun σ H Q ⟨B, ρ, g, Q0, W0, rs, w, t, c, xc⟩ => fun q hq => c.newO w hq (.dK .nil) (t q)
theorem s_dput (h : PS X (.Assign [.Subscript o i pos'] e pos) (sDPut (LE X.K (WE W) to) (LE X.K (WE W) ti) (LE X.K (WE W) te))) : PS X (.Assign [.Subscript o i pos'] e pos) (LS X.K W (wDput to ti te)) :=
  PS.of h fun D σ H ⟨B, ρ, g, D0, rs, w, q, k⟩ => by
    refine ⟨B, ρ, g, _, _, rs, w, q, fun r g1 v H1 hq rv w1 f1 _ => ?_, k.xc rs w⟩
    refine ⟨B, ρ, g1, _, _, rs.fv w f1, w1, hq, fun x g2 ov H2 hq rx w2 f2 _ => ?_, (k.after f1).xc (rs.fv w f1) w1⟩
    refine ⟨B, ρ, g2, _, _, rs.fv w (f1.trans f2), w2, hq, fun y g3 iv H3 hq ry w3 f3 _ => ?_, (k.after (f1.trans f2)).xc (rs.fv w (f1.trans f2)) w2⟩
    dsimp only at hq
    split at hq
    · have rx3 := rx.fv w2 f3
      cases rx3
      have f123 := f1.trans (f2.trans f3)
      rcases hq with ⟨kvs, key, hg, hk, hl, hq⟩ | ⟨kvs, key, hg, hk, hl, hq⟩
      rotate_left
      · obtain ⟨vs, hp, rvs⟩ := trk_dt w3 hg
        rw [hk] at ry
        obtain ⟨b, rfl, hb⟩ := tKey_rep ry
        obtain ⟨f4, w4⟩ := Fr.writeV (u' := .dT (putK vs (tK key) v)) (o' := .dt (putD kvs (tK key) r.fz)) hp hg (fun _ e => by cases e) (fun _ _ e => by cases e) w3 (.dT (rvs.put (tK key) (rv.fv w1 (f2.trans f3))))
        exact ⟨_, _, rfl, .t hp (of_hide hb).1 (by rw [rvs.len]; exact hl), k.nx ρ _ σ _ hq (rs.fv w (f123.trans f4)) w4 (f123.trans f4)⟩
      obtain ⟨vs, hp, rvs⟩ := trk_dk w3 hg
      obtain rfl := dKey_rep ry hk
      obtain ⟨f4, w4⟩ := Fr.writeV (u' := .dK (putK vs key v)) (o' := .dk (putD kvs key r.fz)) hp hg (fun _ e => by cases e) (fun _ _ e => by cases e) w3 (.dK (rvs.put key (rv.fv w1 (f2.trans f3))))
      exact ⟨_, _, rfl, .k hp (by rw [rvs.len]; exact hl), k.nx ρ _ σ _ hq (rs.fv w (f123.trans f4)) w4 (f123.trans f4)⟩
    · exact hq.elim
/-- o[i] = e, o a dict, i a tuple of whole numbers and texts -/
def wDputM (to ti te : TD) : TSD := fun D ρ g => te ρ g (fun r g1 => to ρ g1 (fun x g2 => ti ρ g2 (fun y g3 => match x with
  | .v (.ref p) => ∃ kvs k, g3 p = some (.dt kvs) ∧ y.fz = .tup (k.map keyD) ∧ kvs.length < sizeLine ∧ D.nx ρ (gup g3 p (.dt (putD kvs k r.fz)))
  | _ => False) (fun x g4 => D.ex x ρ g4)) (fun x g4 => D.ex x ρ g4)) (fun x g4 => D.ex x ρ g4)
theorem s_dputM (h : PS X (.Assign [.Subscript o i pos'] e pos) (sDPut (LE X.K (WE W) to) (LE X.K (WE W) ti) (LE X.K (WE W) te))) : PS X (.Assign [.Subscript o i pos'] e pos) (LS X.K W (wDputM to ti te)) :=
  PS.of h fun D σ H ⟨B, ρ, g, D0, rs, w, q, k⟩ => by
    refine ⟨B, ρ, g, _, _, rs, w, q, fun r g1 v H1 hq rv w1 f1 _ => ?_, k.xc rs w⟩
    refine ⟨B, ρ, g1, _, _, rs.fv w f1, w1, hq, fun x g2 ov H2 hq rx w2 f2 _ => ?_, (k.after f1).xc (rs.fv w f1) w1⟩
    refine ⟨B, ρ, g2, _, _, rs.fv w (f1.trans f2), w2, hq, fun y g3 iv H3 hq ry w3 f3 _ => ?_, (k.after (f1.trans f2)).xc (rs.fv w (f1.trans f2)) w2⟩
    dsimp only at hq
    split at hq
    · have rx3 := rx.fv w2 f3
      cases rx3
      have f123 := f1.trans (f2.trans f3)
      obtain ⟨kvs, key, hg, hk, hl, hq⟩ := hq
      obtain ⟨vs, hp, rvs⟩ := trk_dt w3 hg
      rw [hk] at ry
      obtain ⟨b, rfl, hb⟩ := mKey_rep ry
      obtain ⟨f4, w4⟩ := Fr.writeV (u' := .dT (putK vs key v)) (o' := .dt (putD kvs key r.fz)) hp hg (fun _ e => by cases e) (fun _ _ e => by cases e) w3 (.dT (rvs.put key (rv.fv w1 (f2.trans f3))))
      exact ⟨_, _, rfl, .t hp (of_hide hb).1 (by rw [rvs.len]; exact hl), k.nx ρ _ σ _ hq (rs.fv w (f123.trans f4)) w4 (f123.trans f4)⟩
    · exact hq.elim
end
end G3
/-! G3y: a caught exception is tracked by what is true of its object; raise, try, calls by value -/
namespace G3
open PySem PySem.Spec PyProof.Rows L2
theorem IsX.stay {a : Addr} {cls : Value} {d : Option Addr} : ∀ h1 h2 : Heap, IsX a cls d h1 → (∀ o, h1.get? a = some o → h2.get? a = some o) → IsX a cls d h2 := fun h1 h2 ⟨o, vs, e, r⟩ k => ⟨o, vs, k o e, r⟩
/-- what 'except x as n' wishes: the suite starts with the exception tracked -/
def wKept (K : PySem.W.Frag) (c : Value) (i : Nat) (ts : Addr → Value → Option Addr → TS) (Wout : WX) (D : Ends) : WX := fun cls d σ H =>
  ∃ b, PySem.W.exmOne K cls c = some b ∧ (b = true → ∀ a, H a = none → ts a cls d { nx := fun σ' H' => D.nx (σ'.set i none) H', rt := D.rt, bk := fun σ' H' => D.bk (σ'.set i none) H', ct := fun σ' H' => D.ct (σ'.set i none) H' }
    (σ.set i (some (.ref a))) (upd H a (.ext (IsX a cls d)))) ∧ (b = false → Wout cls d σ H)
section
variable {X : Cx} {x n : Str} {c : Value} {i : Nat} {body suite : List Stmt} {one : Stmt} {np pos pos' : Pos} {tb : WX → TS} {ts : Addr → Value → Option Addr → TS} {Wout : WX}
theorem ps_try_kept (hs : X.stack = X.env :: X.outer) (hf : X.env.frame = some X.env.locals) (hN : X.N.Nodup) (hi : X.N[i]? = some n) (hln : X.env.kindOf n = some .local) (hc : Names X x c) (tk : Takes X Wout)
    (hb : ∀ (W : WX) (pn : List (Addr × Obj)) (xe : Value → Shared → Prop), Takes (X.tr pn xe) W → PassesOwn (model X.prog X.w) X.A X.env xe → PSs (X.tr pn xe) body (tb W))
    (hsu : ∀ (a : Addr) (cls : Value) (d : Option Addr) (pn : List (Addr × Obj)), PSs (X.suite a pn) (one :: suite) (ts a cls d)) :
    PS X (.Try body [.ExceptHandler (some (.Name x np)) (some n) (one :: suite) pos'] [] [] pos) (fun D σ H => tb (wKept X.K c i ts Wout D) D σ H) := by
  constructor
  intro pins s σ H D I h
  have ok := I.ok
  have frames : X.A.frames = some (X.env :: X.outer) := by rw [ok.frames, hs]
  refine wpAny_Try_except ?_
  let catching : Value → Shared → Prop := fun e s₁ => wpAny (model X.prog X.w) X.A (noteFrame e X.env) (fun _ s₂ => wpAny (model X.prog X.w) X.A (setFlight e none) (fun _ s₃ =>
    wpAny (model X.prog X.w) X.A (handleBy e X.env [.ExceptHandler (some (.Name x np)) (some n) (one :: suite) pos']) (SP X pins D) X.xe s₃) X.xe s₂) X.xe s₁
  have takes : Takes (X.tr (X.pn ++ pins) catching) (wKept X.K c i ts Wout D) := by
    rintro u s' ⟨a, B, sI, pins', σ', H', cls, d, rfl, J0, ground, up, sky, na, os, bare, b, hb1, hyes, hno⟩
    have J : Inv X pins σ' H' sI := J0.ofTry ok
    have sky0 : Sky B (X.env :: X.outer) a (Zc cls d) X.env.locals s'.heap := by rw [← hs]; exact sky
    refine Sky.land Zc.steady frames hf sky0 fun hA fA upA => ?_
    have JA : Inv X pins σ' H' { s' with heap := hA } := J.landed ground fA.1 (up.trans upA) os bare
    obtain ⟨oA, vA, atA, zA, dA⟩ := fA.there
    have off : ∀ {h : Heap} {o : Obj} {vs : Array Value}, h.FunFrames B (X.env :: X.outer) → h.get? a = some o → o.data = .fields vs → a ∉ frs (X.env :: X.outer) := fun {h o vs} ff e dd m => by
      obtain ⟨_, o', e', z⟩ := ff.mem m
      rw [e] at e'; cases e'
      exact z _ dd
    have nfr := off fA.2.2.1 atA dA
    have nL : a ≠ X.env.locals := fun z => nfr (List.mem_filterMap.mpr ⟨X.env, List.mem_cons_self, by rw [hf, z]⟩)
    have nI : ∀ o, sI.heap.get? a ≠ some o := fun o e => by
      have q := ground a o e (by rw [hs]; exact nfr)
      rw [fA.2.1] at q; cases q
    -- the exception's object, tracked
    have tracked : ∀ {h : Heap}, Inv X pins σ' H' { s' with heap := h } → IsX a cls d h → Inv X pins σ' (upd H' a (.ext (IsX a cls d))) { s' with heap := h } := fun {h} I0 is => by
      refine inv_track I0 na (fun o e => ?_) nL (fun x c e z => ?_) (fun p hp z => ?_) ⟨is, ?_, IsX.stay⟩
      · by_cases m : a ∈ X.ex
        · exact m
        · obtain ⟨o', e'⟩ := J.base.there a o e m
          exact absurd e' (nI o')
      · obtain ⟨v, q⟩ := J.cell x c e
        obtain ⟨o, q⟩ : ∃ o, sI.heap.get? c = some o := by
          obtain ⟨_, e', _⟩ := q
          exact ⟨_, e'⟩
        exact nI o (z ▸ q)
      · exact nI _ (z ▸ (J.pin p hp).1)
      · obtain ⟨o, _, e, _⟩ := is; exact ⟨o, e⟩
    have kindA : PySem.W.Looks (model X.prog X.w) hA (typeOf (.ref a)) cls := fun A Q E s k q => wpAny_typeOf_ref (k _ _ atA) (by rw [zA.1]; exact q)
    have isA : IsX a cls d hA := ⟨oA, vA, atA, zA.1, zA.2, dA⟩
    have SA : Inv (X.suite a (X.pn ++ pins)) [] σ' (upd H' a (.ext (IsX a cls d))) { s' with heap := hA } :=
      let I0 := tracked JA isA
      ⟨I0.ok.suite _ _, I0.os, I0.bare, I0.base, I0.loc, I0.cell, I0.free, I0.freeC, fun p hp => I0.pin p (by rw [List.append_nil] at hp; exact hp), I0.hok, I0.len⟩
    refine wpAny_handleBy_cons (codeAny_handlers_test ?_) (by intro q; cases q)
    have looked : ∀ {Q : Value → Shared → Prop} {E : Value → Shared → Prop}, Q c { s' with heap := hA } → wpAny (model X.prog X.w) (X.A.mark (some (.ref a))) (eval (.Name x np) X.env) Q E { s' with heap := hA } := fun {Q E} q => by
      obtain ⟨g1, g2, m | ⟨m, v, g3⟩⟩ := hc
      · exact ld_glob (X := X.suite a (X.pn ++ pins)) SA g1 m q g2
      · exact ld_blt (X := X.suite a (X.pn ++ pins)) SA g1 m v q g3 g2
    refine looked ((PySem.W.exm_one (M := model X.prog X.w) JA.kIn kindA hb1).here ?_)
    cases b with
    | false =>
      show wpAny _ X.A (handleBy (.ref a) X.env []) _ _ _
      refine wpAny_handleBy_nil ?_
      obtain ⟨_, _, _, o1, v1, T, oT, tf, e1, z1, d1, f1, _⟩ := id fA
      have on : wpAny (model X.prog X.w) X.A (setFlight (.ref a) X.env.frame) (fun _ s4 => wpAny (model X.prog X.w) X.A (throw (.ref a) : Sem Flow) (SP X pins D) X.xe s4) X.xe { s' with heap := hA } := by
        rw [hf]
        exact HandSPX.setFlight_upZ fA fun hB held upB => wpAny_throw (tk _ _ ⟨a, B, sI, pins, σ', H', cls, d, rfl, J, ground, (up.trans upA).trans upB, .inr (.inr (by rw [hs]; exact held)), na, os, bare, hno rfl⟩)
      unfold PySem.passOn
      refine wpAny_bind (wpAny_field e1 d1 f1 ?_)
      rw [if_neg (by simp : ¬ ((Value.ref T == Value.none) = true))]
      first
        | exact wpAny_bind (wpAny_pure (wpAny_bind on))
        | exact wpAny_bind on
    | true =>
      refine codeAny_handlers_suite_as (HandSPX.lands_againZ fA fun hB fB upB => ?_)
      have JB : Inv X pins σ' H' { s' with heap := hB } := J.landed ground fB.1 ((up.trans upA).trans upB) os bare
      obtain ⟨oB, vB, atB, zB, dB⟩ := fB.there
      have IB := tracked JB ⟨oB, vB, atB, zB.1, zB.2, dB⟩
      have SB : Inv (X.suite a (X.pn ++ pins)) [] σ' (upd H' a (.ext (IsX a cls d))) { s' with heap := hB } :=
        ⟨IB.ok.suite _ _, IB.os, IB.bare, IB.base, IB.loc, IB.cell, IB.free, IB.freeC, fun p hp => IB.pin p (by rw [List.append_nil] at hp; exact hp), IB.hok, IB.len⟩
      refine store_ok (X := X.suite a (X.pn ++ pins)) (v := .ref a) SB hN hi (.inl hln) rfl (fun s5 S5 => ?_) (.inr hln)
      refine wpAny_mono ((hsu a cls d (X.pn ++ pins)).run [] s5 _ _ _ S5 (hyes rfl a na)) (fun f s6 done => ?_) (fun _ _ z => False.elim z)
      have after : ∀ {σ6 : L2.St} {H6 : Hp} {Q : Shared → Prop}, Inv (X.suite a (X.pn ++ pins)) [] σ6 H6 s6 → (∀ s7, Inv X pins (σ6.set i none) H6 s7 → Q s7) →
          wpAny (model X.prog X.w) X.A (do bindName X.env n .none; unbindBehindTheSuite X.env n pos') (fun _ s7 => Q s7) X.xe s6 := fun {σ6 H6 Q} S6 q =>
        gone_ok (X := X) ⟨ok, S6.os, S6.bare, S6.base, S6.loc, S6.cell, S6.free, S6.freeC, fun p hp => S6.pin p (by rw [List.append_nil]; exact hp), S6.hok, S6.len⟩ hN hi hln q
      match f, done with
      | .next, ⟨σ6, H6, S6, q6⟩ => exact after S6 fun s7 J7 => ⟨_, _, J7, q6⟩
      | .brk, ⟨σ6, H6, S6, q6⟩ => exact after S6 fun s7 J7 => ⟨_, _, J7, q6⟩
      | .cont, ⟨σ6, H6, S6, q6⟩ => exact after S6 fun s7 J7 => ⟨_, _, J7, q6⟩
      | .ret u, ⟨v6, σ6, H6, S6, r6, q6⟩ => exact after S6 fun s7 J7 => ⟨_, _, _, J7, r6, q6⟩
  refine wpAny_mono ((hb _ (X.pn ++ pins) catching takes PassesOwn.looking).run [] s σ H D (I.toTry _) h) (fun f s1 got => ?_) (fun _ _ he => he)
  match f, got with
  | .next, ⟨σ', H', J', q⟩ => exact wpAny_execs_nil ⟨σ', H', J'.ofTry ok, q⟩
  | .brk, ⟨σ', H', J', q⟩ => exact ⟨σ', H', J'.ofTry ok, q⟩
  | .cont, ⟨σ', H', J', q⟩ => exact ⟨σ', H', J'.ofTry ok, q⟩
  | .ret u, ⟨v, σ', H', J', r, q⟩ => exact ⟨v, σ', H', J'.ofTry ok, r, q⟩
end

/-! ### over data -/
/-- raise C('..') -/
def wRaise (C : Str) : TSD := fun D ρ g => D.ex ⟨C, none⟩ ρ g
def setO (ρ : DEnv) (i : Option Nat) (d : D) : DEnv := match i with
  | some i => ρ.set i (some d)
  | none => ρ
def gonO (ρ : DEnv) (i : Option Nat) : DEnv := match i with
  | some i => ρ.set i none
  | none => ρ
def tryEnds (i : Option Nat) (D : DEnds) : DEnds := ⟨fun ρ g => D.nx (gonO ρ i) g, D.rt, fun ρ g => D.ct (gonO ρ i) g, fun _ _ _ => False⟩
/-- try: body, except C [as the slot i's name]: suite -/
def wTry (xs : List Str) (C : Str) (i : Option Nat) (tb ts : TSD) : TSD := fun D ρ g =>
  tb { D with ex := fun x ρ' g' => x.C ∈ xs ∧ (exSub x.C C = true → ts (tryEnds i D) (setO ρ' i (.exc x.C x.n)) g') ∧ (exSub x.C C = false → D.ex x ρ' g') } ρ g
theorem ExOk.inv {K : PySem.W.Frag} {H : Hp} {g : GH} {x : Exn} {cls : Value} {d : Option Addr} (h : ExOk K H g x cls d) : ∃ c, gaK K x.C = some c ∧ cls = .ref c := by
  cases h with
  | plain h => exact ⟨_, h, rfl⟩
  | dict h _ _ => exact ⟨_, h, rfl⟩
section
variable {X : Cx} {W : L2.WX} {xs : List Str} {C : Str} {p p2 cpos pos pos' np : Pos} {m : Str} {j : Nat} {body suite : List Stmt} {one : Stmt} {tb ts : TSD} {i : Nat} {n : Str}
theorem s_raise {c : Addr} (hc : X.calm = true) (tk : Takes X W) (hg : Gl X C) (hm : X.mg C = some (.ref c)) (gk : gaK X.K C = some c) (own : PySem.W.excIn X.K c He.veBase "ValueError.__new__" = true) (kp : PySem.W.keepIn X.K (.ref c) = true)
    (sb : PySem.W.subIn X.K (.ref c) (.type "BaseException") = some true) (ty : PySem.W.typeIn X.K (.ref c) = some (.type "type")) (hdb : (C == ("__debug__" : Str)) = false) :
    PS X (.Raise (some (.Call (.Name C p) [.Constant (.str m) j p2] [] cpos)) none pos) (LS X.K W (wRaise C)) :=
  PS.of (ps_raise hc tk (pmk_own PySem.F.excBase_ValueError own hm kp (raises_own sb ty) hg hdb)) fun D σ H ⟨B, ρ, g, D0, rs, w, q, k⟩ =>
    k.ex ⟨C, none⟩ ρ g _ _ σ H q (.plain gk) rs w (Fr.refl _ _)
theorem RepS.setO {K : PySem.W.Frag} {H : Hp} {g : GH} {σ : L2.St} {ρ : DEnv} {v : V} {d : D} (r : RepS K H g σ ρ) (q : Rep K H g v d) (i : Nat) : RepS K H g (σ.set i (some v)) (ρ.set i (some d)) := r.set q
theorem s_try_as {cC : Addr} (E : ExcW X.K xs) (hC : C ∈ upN :: xs) (hm : X.mg C = some (.ref cC)) (gk : gaK X.K C = some cC) (hg : Gl X C) (hdb : (C == ("__debug__" : Str)) = false)
    (hs : X.stack = X.env :: X.outer) (hf : X.env.frame = some X.env.locals) (hN : X.N.Nodup) (hi : X.N[i]? = some n) (hln : X.env.kindOf n = some .local) (tk : Takes X W)
    (hb : ∀ (W : WX) (pn : List (Addr × Obj)) (xe : Value → Shared → Prop), Takes (X.tr pn xe) W → PassesOwn (model X.prog X.w) X.A X.env xe → PSs (X.tr pn xe) body (LS X.K W tb))
    (hsu : ∀ (a : Addr) (pn : List (Addr × Obj)), PSs (X.suite a pn) (one :: suite) (LS X.K (fun _ _ _ _ => False) ts)) :
    PS X (.Try body [.ExceptHandler (some (.Name C np)) (some n) (one :: suite) pos'] [] [] pos) (LS X.K W (wTry xs C (some i) tb ts)) := by
  refine PS.of (ps_try_kept (c := .ref cC) (i := i) (tb := fun W => LS X.K W tb) (ts := fun _ _ _ => LS X.K (fun _ _ _ _ => False) ts) hs hf hN hi hln ⟨hg, hdb, .inl hm⟩ tk hb fun a _ _ pn => hsu a pn) fun D σ H ⟨B, ρ, g, D0, rs, w, q, k⟩ => ?_
  refine ⟨B, ρ, g, _, rs, w, q, ⟨k.nx, k.rt, k.ct, fun x ρ' g' cls d σ' H' ⟨hx, h1, h2⟩ xo rs' w' f' => ?_⟩⟩
  obtain ⟨c, gc, rfl⟩ := xo.inv
  obtain ⟨o1, o2, o3, o4, o5, o6⟩ := E.one x.C hx
  obtain ⟨p1, p2, p3⟩ := E.two x.C hx C hC
  rw [gc] at o1; cases o1
  rw [gk] at p1; cases p1
  refine ⟨_, p2, fun hy a na => ?_, fun hn => k.ex x ρ' g' _ d σ' H' (h2 hn) xo rs' w' f'⟩
  obtain ⟨f2, w2, ga⟩ := Fr.laidV (u := .ext (IsX a (.ref (He.ga X.K x.C)) d)) na w'
  have rx : Rep X.K (hide (upd H' a (.ext (IsX a (.ref (He.ga X.K x.C)) d))) B) g' (.ref a) (.exc x.C x.n) := by
    have ha : hide (upd H' a (.ext (IsX a (.ref (He.ga X.K x.C)) d))) B a = some (.ext (IsX a (.ref (He.ga X.K x.C)) d)) := by rw [hide_out (w'.new na)]; exact upd_same
    generalize hx' : x = x' at *
    cases xo with
    | plain g1 => exact .exc0 g1 ha ga
    | @dict C0 c0 d0 i0 g1 g2 g3 =>
      have g2' := (of_hide g2)
      have ne : d0 ≠ a := ne_of_none g2'.1 na
      exact .exc1 g1 ha ga (by rw [hide_out g2'.2, upd_ne ne]; exact g2'.1) g3
  exact ⟨B, _, g', _, (rs'.fv w' f2).set rx, w2, h1 hy, ⟨fun ρ2 g2 σ2 H2 q2 r2 w2 f3 => k.nx _ g2 _ H2 q2 r2.forget w2 (f'.trans (f2.trans f3)), k.rt.after (f'.trans f2),
    fun ρ2 g2 σ2 H2 q2 r2 w2 f3 => k.ct _ g2 _ H2 q2 r2.forget w2 (f'.trans (f2.trans f3)), fun _ _ _ _ _ _ _ z => z.elim⟩⟩
theorem s_try_only {cC : Addr} (E : ExcW X.K xs) (hC : C ∈ upN :: xs) (hm : X.mg C = some (.ref cC)) (gk : gaK X.K C = some cC) (hg : Gl X C) (hdb : (C == ("__debug__" : Str)) = false)
    (hs : X.stack = X.env :: X.outer) (hf : X.env.frame = some X.env.locals) (tk : Takes X W)
    (hb : ∀ (W : WX) (pn : List (Addr × Obj)) (xe : Value → Shared → Prop), Takes (X.tr pn xe) W → PassesOwn (model X.prog X.w) X.A X.env xe → PSs (X.tr pn xe) body (LS X.K W tb))
    (hsu : ∀ (a : Addr) (pn : List (Addr × Obj)), PSs (X.suite a pn) (one :: suite) (LS X.K (fun _ _ _ _ => False) ts)) :
    PS X (.Try body [.ExceptHandler (some (.Name C np)) none (one :: suite) pos'] [] [] pos) (LS X.K W (wTry xs C none tb ts)) := by
  refine PS.of (ps_try_only (c := .ref cC) (tb := fun W => LS X.K W tb) (ts := fun _ _ _ => LS X.K (fun _ _ _ _ => False) ts) hs hf ⟨hg, hdb, .inl hm⟩ tk hb fun a oe _ _ pn _ _ => hsu a ((a, oe) :: pn)) fun D σ H ⟨B, ρ, g, D0, rs, w, q, k⟩ => ?_
  refine ⟨B, ρ, g, _, rs, w, q, ⟨k.nx, k.rt, k.ct, fun x ρ' g' cls d σ' H' ⟨hx, h1, h2⟩ xo rs' w' f' => ?_⟩⟩
  obtain ⟨c, gc, rfl⟩ := xo.inv
  obtain ⟨o1, o2, o3, o4, o5, o6⟩ := E.one x.C hx
  obtain ⟨p1, p2, p3⟩ := E.two x.C hx C hC
  rw [gc] at o1; cases o1
  rw [gk] at p1; cases p1
  refine ⟨_, p2, fun hy a na => ?_, fun hn => k.ex x ρ' g' _ d σ' H' (h2 hn) xo rs' w' f'⟩
  exact ⟨B, ρ', g', _, rs', w', h1 hy, ⟨fun ρ2 g2 σ2 H2 q2 r2 w2 f3 => k.nx _ g2 _ H2 q2 r2 w2 (f'.trans f3), k.rt.after f',
    fun ρ2 g2 σ2 H2 q2 r2 w2 f3 => k.ct _ g2 _ H2 q2 r2 w2 (f'.trans f3), fun _ _ _ _ _ _ _ z => z.elim⟩⟩
end
/-! ### a call by value: a def out of a table -/
abbrev Tab := List (Str × GSp)
def wCallv (tab : Tab) (to : TD) (tr : TAD) : TD := fun ρ g Q W => to ρ g (fun r g1 => match r with
  | .v (.gl x) => ∃ sp, (x, sp) ∈ tab ∧ tr ρ g1 (fun ds g2 => sp ds g2 Q W) W
  | _ => False) W
section
variable {X : Cx} {W : L2.WX} {f e : Expr} {es : List Expr} {pos : Pos} {to : TD} {tr : TAD} {tab : Tab} {k : Nat}
theorem q_callv (hF : ∀ x sp, (x, sp) ∈ tab → ∃ a fd ps j, j ≤ k ∧ FnG X.prog X.w X.K X.mg X.base j a fd ps sp ∧ gaK X.K x = some a ∧ PySem.W.keepIn X.K (.ref a) = true ∧ Binds X.K fd ps []) (gu : X.A.guards = some []) (hr : Room k X.A) (tk : Takes X W)
    (hf : PE X f (LE X.K (WE W) to)) (ha : PA X (e :: es) (LA X.K (WE W) tr)) (hC : ∀ env, eval (.Call f (e :: es) [] pos) env = (do callWith pos (← eval f env) [] (backTo pos (starEach (e :: es) env)) (backToKw pos (keywordEach [] env))))
    (he : starEach (e :: es) X.env = (false, eval e X.env) :: starEach es X.env) (hpl : (backTo pos (starEach es X.env)).any (·.1) = false) :
    PE X (.Call f (e :: es) [] pos) (LE X.K (WE W) (wCallv tab to tr)) := by
  constructor
  rintro pins s σ H Q I ⟨B, ρ, g, Q0, W0, rs, w, t, c, xc⟩
  refine Call_ (thn (hf.run pins s σ H (fun v H1 => ∃ x a sp, v = .ref a ∧ gaK X.K x = some a ∧ (x, sp) ∈ tab ∧ LA X.K (WE W) tr σ H1 fun vs H2 => liftSp X.K sp vs H2 Q (WE W σ)) I ⟨B, ρ, g, _, W0, rs, w, t, fun r g1 v H1 hq rv w1 f1 _ => ?_, xc⟩) ?_) (hC X.env)
  · match r, rv, hq with
    | .v (.gl x), .gl e, ⟨sp, hsp, hq⟩ =>
      exact ⟨x, _, sp, rfl, e, hsp, B, ρ, g1, _, W0, rs.fv w f1, w1, hq, fun ds g2 vs H2 q2 rvs w2 f2 => ⟨B, g2, ds, Q0, W0, w2, rvs, q2, c.after (f1.trans f2), xc.after (f1.trans f2)⟩, xc.after f1⟩
  · rintro u s1 ⟨v, H1, I1, rv, x, a, sp, rfl, gx, hsp, hla⟩
    obtain rfl : u = Value.ref a := rv
    obtain ⟨a', fd, ps, j, hj, F, ga, kp, bd⟩ := hF x sp hsp
    rw [gx] at ga; cases ga
    refine PySem.W.callWith_K I1.ok.mod.kin kp (thn (ha.run pos pins s1 σ H1 _ I1 hla) ?_) he hpl
    rintro us s2 ⟨vs, H2, I2, r, q⟩
    exact ⟨I2.kIn, F.at_ gu (hr.mono hj) bd tk I2 r q⟩
end
end G3
/-! G3v: classes of exceptions with an __init__ of their own, which keeps a number in the field at -/
namespace G3
open PySem PySem.Spec PyProof.Rows L2
/-! ### a def that keeps a promise over the heap as it is -/
section
variable {P : Program} {w : World} {K : PySem.W.Frag} {mg : Str → Option Value} {base : Heap}
theorem fnok_by {x qual : Str} {pm : Arguments} {bd : List Stmt} {sc : Scope} {f : Addr} {fd : FuncData} {N ps : List Str} {k : Nat} {sp : Sp} {t : TS} (F : FunD K x qual pm bd sc [] [] f fd) (S : FnScope N ps sc) (len : ∀ vs H Q E, sp vs H Q E → vs.length = ps.length)
    (hb : ∀ (cdv : Value) (A : Around) (outer : List PySem.Env) (s : Shared) (H : Hp) (Z : XK), Room k (A.deeper (PyProof.Rows.envOfC qual sc s.heap.objs.size f cdv)) →
      PSs (cxOf (L2.CX P w) P w K mg base N qual sc f cdv A outer s H Z) bd t)
    (hw : ∀ vs H Q E, sp vs H Q E → t { nx := fun _ H' => Q .non H', rt := Q, bk := fun _ _ => False, ct := fun _ _ => False } (L2.start N vs) H) : FnOk P w K mg base (L2.CX P w) (k + 1) f fd ps sp := by
  obtain ⟨oc, od, dV, kV, doc, pm', an, cdv, ct, osl, rfl, lk, hcd, _, _⟩ := F.ex
  refine ⟨len, fun A outer s H args us vs Q Z hr e0 hbd r h => ?_⟩
  have hl := len _ _ _ _ h
  have KX : K.In s.heap := e0.mod.kin.keeps fun b o e => (e0.bs b o e).1
  have kinds : ∀ y ∈ ps.zip us, sc.names.lookup y.1 = some .local ∨ (sc.names.lookup y.1 = some .cell ∧ ((PySem.cellsFrom (s.heap.objs.size + 1) sc.names []).lookup y.1).isSome = true) := by
    rintro ⟨n, v⟩ hy
    exact (S.par n (List.of_mem_zip hy).1).imp id fun q => ⟨q, PySem.W.cellsFrom_some _ _ _ (.inl q)⟩
  refine codeAny_call_function hr.depth (KX _ _ lk) rfl S.co S.gen rfl (PySem.W.codeRec_of KX hcd) (hbd _ _ _ _ ?_)
  refine wpAny_newFunctionEnv_cells S.kind kinds ?_
  rintro _ rfl s1 x1
  refine ⟨(e0.mod.nolimit.keeps fun b o e => (e0.bs b o e).1).keeps x1.toInCall.keep, codeAny_func ?_⟩
  have I := inv_start (CX := L2.CX P w) (E := Z) S hr.hd e0 hl r x1
  refine wpAny_mono ((hb cdv A outer s H Z (hr.deeper _)).run [] s1 _ H _ I (hw vs H Q Z h)) ?_ fun _ _ q => q
  intro fl s2 q
  match fl, q with
  | .next, q =>
    obtain ⟨σ', H', J, q⟩ := q
    exact ⟨.non, H', J.os, J.bare, J.base, J.hok, rfl, q⟩
  | .brk, q | .cont, q => obtain ⟨_, _, _, q⟩ := q; exact q.elim
  | .ret u, q =>
    obtain ⟨v, σ', H', J, rv, q⟩ := q
    exact ⟨v, H', J.os, J.bare, J.base, J.hok, rv, q⟩
end
/-- S.__init__ is ValueError's -/
structure UpC (K : PySem.W.Frag) (S : Addr) (mc : Value) : Prop where
  rd : PySem.W.readsIn K S mc = true
  ga : PySem.W.specialIn K (.ref S) "__getattribute__" = some (some (.builtin "type.__getattribute__"))
  at_ : PySem.W.findCls K (.ref S) mc "__init__" = some (.val (.builtin "ValueError.__init__"))
section
variable {X : Cx} {x : Str} {e : Expr} {es : List Expr} {ta : TA} {p1 p2 pos : Pos} {S : Addr} {mc : Value}
theorem pe_upinit (hg : Gl X x) (hm : X.mg x = some (.ref S)) (U : UpC X.K S mc) (ha : PA X (e :: es) ta) (hdb : (x == ("__debug__" : Str)) = false) (hline : (p2.endLine == pos.line) = true)
    (few : methodCallForm ((e :: es).length + ([] : List Keyword).length) (backTo pos (starEach (e :: es) X.env)) (backToKw pos (keywordEach [] X.env)) = true)
    (he : starEach (e :: es) X.env = (false, eval e X.env) :: starEach es X.env := by rfl) (hpl : (backTo pos (starEach es X.env)).any (·.1) = false := by rfl) :
    PE X (.Call (.Attribute (.Name x p1) "__init__" p2) (e :: es) [] pos) (tVeI X.K ta) := by
  refine ⟨fun pins s σ H Q I h => ?_⟩
  have at_pos : methodCallPos true (.Name x p1) X.env p2 pos = pure pos := by unfold methodCallPos; simp [hline]
  rw [arm_eval_Call, show attributeBase (.Name x p1) "__init__" X.env (eval (.Name x p1) X.env) = eval (.Name x p1) X.env from rfl]
  refine wpAny_bind (ld_glob I hg hm ?_ hdb)
  refine wpAny_bind (wpAny_standAt ?_)
  unfold methodCall
  rw [few]
  refine wpAny_bind (wpAny_holding (PySem.W.method_cls I.kIn U.ga (PySem.W.cls_value I.kIn U.rd U.at_ (by decide +kernel) ?_)))
  refine wpAny_bind (wpAny_of_eq at_pos ?_)
  show wpAny _ _ (callWith pos (Value.builtin "ValueError.__init__") [] (backTo pos (starEach (e :: es) X.env)) []) _ _ _
  refine PyProof.Rows.callWith_method1 (thn (ha.run pos pins _ σ H _ (I.tok _) h) fun us s1 ⟨vs, H1, I1, r1, a, C, ws, ev, hl, T, ea, q⟩ => ?_) he hpl
  subst ev
  match r1 with
  | .cons ra rw' =>
    cases ra
    exact oinit_ok T I1 ea (by rw [← Paired.length rw', sizeLine_eq]; omega) fun s' J => ⟨.non, H1, J, rfl, q⟩
end
/-- the promise of such an __init__: the number stands in a new dict -/
def spAt (K : PySem.W.Frag) : Sp := fun vs H Q _ => ∃ (a C : Addr) (y : V), vs = [.ref a, y] ∧ OexC K C ∧ PySem.W.findIn K (.ref C) "at" = some none ∧ H a = some (exo a C none) ∧ ∀ dx, H dx = none → dx ≠ a → Q .non (upd (upd H dx (exd dx [("at", y)])) a (exo a C (some dx)))
def initB (sc : Scope) : List Stmt → Bool
  | [.Expr (.Call (.Attribute (.Name x _) i ap) [.Name s1 _, .Constant (.str _) _ _] [] cp) _, .Assign [.Attribute (.Name s2 _) a _] (.Name y _) _] =>
    (ap.endLine == cp.line) && (decide (x = ("SpareError" : Str)) && (decide (i = ("__init__" : Str)) && (decide (s1 = ("self" : Str)) && (decide (s2 = ("self" : Str)) && (decide (a = ("at" : Str)) && (decide (y = ("at" : Str)) &&
      (match sc.names.lookup ("SpareError" : Str) with | some .globalImplicit => true | _ => false)))))))
  | _ => false
theorem init_body {X : Cx} {S : Addr} {mc : Value} {p1 p2 p3 p4 p5 p6 p7 p8 p9 p0 : Pos} {m : Str} {j : Nat} (hN : X.N = ([("self" : Str), ("at" : Str)] : List Str)) (v1 : L2.Vis X.env.scope "self") (v2 : L2.Vis X.env.scope "at") (hg : Gl X "SpareError") (hm : X.mg "SpareError" = some (.ref S)) (U : UpC X.K S mc) (hline : (p2.endLine == p5.line) = true) :
    PSs X [.Expr (.Call (.Attribute (.Name "SpareError" p1) "__init__" p2) [.Name "self" p3, .Constant (.str m) j p4] [] p5) p6, .Assign [.Attribute (.Name "self" p7) "at" p8] (.Name "at" p9) p0]
      (tSeq (tDrop (tVeI X.K (tCons (tVar 0) (tCons (tC (.str m)) tNil)))) (tSeq (tOst X.K "at" (tVar 0) (tVar 1)) tNext)) := by
  have q0 : ∀ {p}, PE X (.Name "self" p) (tVar 0) := fun {p} => pe_var (x := "self") (by rw [hN]; rfl) v1
  have q1 : ∀ {p}, PE X (.Name "at" p) (tVar 1) := fun {p} => pe_var (x := "at") (by rw [hN]; rfl) v2
  exact pss_cons (ps_expr (pe_upinit hg hm U (pa_cons q0 (pa_cons pe_str pa_nil)) (by decide +kernel) hline rfl)) (pss_cons (ps_ost q0 q1) pss_nil)
theorem init_ok {P : Program} {w : World} {K : PySem.W.Frag} {mg : Str → Option Value} {base : Heap} {x qual : Str} {pm : Arguments} {bd : List Stmt} {sc : Scope} {f S : Addr} {fd : FuncData} {mc : Value} (F : FunD K x qual pm bd sc [] [] f fd)
    (Sc : FnScope ["self", "at"] ["self", "at"] sc) (hbd : initB sc bd = true) (hm : mg "SpareError" = some (.ref S)) (U : UpC K S mc) : FnOk P w K mg base (L2.CX P w) 1 f fd ["self", "at"] (spAt K) := by
  unfold initB at hbd
  split at hbd
  · simp only [Bool.and_eq_true, decide_eq_true_eq] at hbd
    obtain ⟨hl, rfl, rfl, rfl, rfl, rfl, rfl, hgl⟩ := hbd
    have loc : ∀ y ∈ (["self", "at"] : List Str), L2.Vis sc y := fun y hy => (Sc.par y hy).imp id .inl
    have hgl' : sc.names.lookup ("SpareError" : Str) = some .globalImplicit := by
      split at hgl
      · assumption
      · cases hgl
    rename_i ms _ _ _ _ _ _ _ _
    refine fnok_by (t := tSeq (tDrop (tVeI K (tCons (tVar 0) (tCons (tC (.str ms)) tNil)))) (tSeq (tOst K "at" (tVar 0) (tVar 1)) tNext)) F Sc (fun vs H Q E ⟨a, C, y, e, _⟩ => by subst e; rfl) (fun cdv A outer s H Z hr => init_body (X := cxOf (L2.CX P w) P w K mg base ["self", "at"] qual sc f cdv A outer s H Z) rfl (loc _ List.mem_cons_self) (loc _ (List.mem_cons_of_mem _ List.mem_cons_self)) hgl' hm U hl) fun vs H Q E ⟨a, C, y, e, T, hno, ea, q⟩ => ?_
    subst e
    refine ⟨V.ref a, rfl, a, C, _, rfl, by simp, T, ea, y, rfl, V.ref a, rfl, a, C, rfl, T, hno, .inl ⟨ea, fun dx n ne => ?_⟩⟩
    exact q dx n ne
  · cases hbd
/-! ### over data -/
/-- a class that is made with a number -/
structure AtC (P : Program) (w : World) (K : PySem.W.Frag) (mg : Str → Option Value) (base : Heap) (C : Str) : Prop where
  ex : ∃ c fI fd, gaK K C = some c ∧ mg C = some (.ref c) ∧ OexC K c ∧ PySem.W.findIn K (.ref c) "__init__" = some (some (.ref fI)) ∧ PySem.W.typeIn K (.ref fI) = some (.type "function") ∧ PySem.W.findIn K (.ref c) "at" = some none ∧
    FnOk P w K mg base (L2.CX P w) 1 fI fd ["self", "at"] (spAt K) ∧ Binds K fd ["self", "at"] []
/-- raise C(n) -/
def wRaiseAt (C : Str) (te : TD) : TSD := fun D ρ g => te ρ g (fun r g1 => match r with | .v (.int i) => D.ex ⟨C, some i⟩ ρ g1 | _ => False) (fun x g1 => D.ex x ρ g1)
section
variable {X : Cx} {W : L2.WX} {C : Str} {p cpos pos : Pos} {e : Expr} {te : TD}
theorem mk_at {H1 : Hp} {K : PySem.W.Frag} {c : Addr} {y : V} {Q : XK} (T : OexC K c) (hno : PySem.W.findIn K (.ref c) "at" = some none) (q : ∀ dx, H1 dx = none → Q (.ref c) (some dx) (upd H1 dx (.xd [("at", y)]))) :
    ∀ a, H1 a = none → spAt K (.ref a :: ([y] ++ [])) (upd H1 a (exo a c none)) (fun v H2 => v = .non ∧ ∃ (d : Addr) (fs : List (Str × V)), H2 a = some (exo a c (some d)) ∧ H2 d = some (exd d fs) ∧ H1 d = none ∧ Q (.ref c) (some d) (upd (del H2 a) d (.xd fs))) (fun _ _ _ => False) := by
  intro a na
  refine ⟨a, c, y, rfl, T, hno, upd_same, fun dx nx ne => ?_⟩
  rw [upd_ne ne] at nx
  refine ⟨rfl, dx, _, upd_same, by rw [upd_ne ne, upd_same], nx, ?_⟩
  have e : upd (del (upd (upd (upd H1 a (exo a c none)) dx (exd dx [("at", y)])) a (exo a c (some dx))) a) dx (.xd [("at", y)]) = upd H1 dx (.xd [("at", y)]) := by
    funext b
    by_cases h1 : b = dx
    · subst h1; rw [upd_same, upd_same]
    · rw [upd_ne h1, upd_ne h1]
      by_cases h2 : b = a
      · subst h2; rw [del_same, na]
      · rw [del_ne h2, upd_ne h2, upd_ne h1, upd_ne h2]
  rw [e]
  exact q dx nx
theorem s_raiseAt {k : Nat} (hr : Room (k + 2) X.A) (hc : X.calm = true) (tk : Takes X W) (hg : Gl X C) (A : AtC X.prog X.w X.K X.mg X.base C) (hdb : (C == ("__debug__" : Str)) = false) (he : PE X e (LE X.K (WE W) te)) (hs : starEach [e] X.env = [(false, eval e X.env)]) :
    PS X (.Raise (some (.Call (.Name C p) [e] [] cpos)) none pos) (LS X.K W (wRaiseAt C te)) := by
  obtain ⟨c, fI, fd, gk, hm, T, iC, tI, hno, F, bd⟩ := A.ex
  refine PS.of (ps_raise hc tk (pmk_oex (ds := []) (dvs := []) (ta := tCons (LE X.K (WE W) te) tNil) T iC tI F (hr.mono (by omega)) bd .nil (passes_call tk fun _ _ _ _ z => z.elim) hg hm (pa_cons he pa_nil hs) hdb hs rfl)) fun D σ H ⟨B, ρ, g, D0, rs, w, q, k⟩ => ?_
  refine ⟨B, ρ, g, _, _, rs, w, q, fun r g1 v H1 hq rv w1 f1 _ => ?_, k.xc rs w⟩
  match r, rv, hq with
  | .v (.int i), rv, hq =>
    obtain rfl := int_of rv
    refine ⟨by simp, mk_at (Q := fun cls d H2 => W cls d σ H2) T hno fun dx nx => ?_⟩
    obtain ⟨f2, w2, gd⟩ := Fr.laidV (u := .xd [("at", .int i)]) nx w1
    exact k.ex ⟨C, some i⟩ ρ g1 _ _ σ _ hq (.dict gk (by rw [hide_out (w1.new nx)]; exact upd_same) gd) ((rs.fv w f1).fv w1 f2) w2 (f1.trans f2)
end
end G3
/-! G3v2: exceptions made and kept as things; their field at -/
namespace G3
open PySem PySem.Spec PyProof.Rows L2
section
variable {X : Cx}
theorem pe_mk {e : Expr} {t : L2.St → Hp → XK → Prop} (h : PMk X e t) : PE X e (fun σ H Q => t σ H fun cls d H' => ∀ a, H' a = none → Q (.ref a) (upd H' a (.ext (IsX a cls d)))) := by
  constructor
  intro pins s σ H Q I hq
  refine thn (h pins s σ H _ I hq) ?_
  rintro u s1 ⟨a, oe, vs, sI, H1, cls, d, rfl, J, keep, none_, at_a, hz, hd, -, na, os, bare, -, q⟩
  have J1 : Inv X pins σ H1 s1 := by
    obtain ⟨h1, g1, d1, t1, o1⟩ := s1
    obtain rfl : o1 = sI.os := os
    exact Inv.call (ch := []) J ⟨fun b o e n _ _ => keep b o e, fun b o e n _ _ => ⟨o.slots, keep b o e⟩, fun b o e n _ => n, fun b o e _ => ⟨o, keep b o e⟩, fun b xs e => e, fun b o u e => e, fun b ps e => ⟨#[], by rw [e]; simp⟩⟩ (J.hok.kept keep) bare (fun _ z => nomatch z)
  have no : ∀ o, sI.heap.get? a ≠ some o := fun o z => by rw [none_] at z; cases z
  refine ⟨.ref a, _, inv_track (u := .ext (IsX a cls d)) J1 na (fun o e => ?_) ?_ (fun x c e z => ?_) (fun p hp z => ?_) ⟨⟨oe, vs, at_a, hz.1, hz.2, hd⟩, ⟨oe, at_a⟩, IsX.stay⟩, rfl, q a na⟩
  · by_cases m : a ∈ X.ex
    · exact m
    · obtain ⟨o', e'⟩ := J.base.there a o e m
      exact absurd e' (no o')
  · intro z
    obtain ⟨m, ⟨o, _, _, e, _⟩, _⟩ := J.loc
    exact no o (z ▸ e)
  · obtain ⟨v, q⟩ := J.cell x c e
    obtain ⟨o, q⟩ : ∃ o, sI.heap.get? c = some o := by
      obtain ⟨_, e', _⟩ := q
      exact ⟨_, e'⟩
    exact no o (z ▸ q)
  · exact no _ (z ▸ (J.pin p hp).1)
end
/-- C(x), a class without an own __init__ -/
def wMk (C : Str) (te : TD) : TD := fun ρ g Q W => te ρ g (fun _ g1 => Q (.v (.exc C none)) g1) W
/-- C(n), a class with the field at -/
def wMkAt (C : Str) (te : TD) : TD := fun ρ g Q W => te ρ g (fun r g1 => match r with | .v (.int i) => Q (.v (.exc C (some i))) g1 | _ => False) W
section
variable {X : Cx} {W : L2.WX} {C : Str} {p cpos : Pos} {e : Expr} {te : TD}
theorem q_mk {c : Addr} (hg : Gl X C) (hm : X.mg C = some (.ref c)) (gk : gaK X.K C = some c) (own : PySem.W.excIn X.K c He.veBase "ValueError.__new__" = true) (kp : PySem.W.keepIn X.K (.ref c) = true)
    (sb : PySem.W.subIn X.K (.ref c) (.type "BaseException") = some true) (ty : PySem.W.typeIn X.K (.ref c) = some (.type "type")) (hdb : (C == ("__debug__" : Str)) = false) (he : PE X e (LE X.K (WE W) te)) (hs : starEach [e] X.env = [(false, eval e X.env)]) :
    PE X (.Call (.Name C p) [e] [] cpos) (LE X.K (WE W) (wMk C te)) := by
  refine PE.of (pe_mk (pmk_ownA PySem.F.excBase_ValueError own hm kp (raises_own sb ty) hg (pa_cons he pa_nil hs) hdb hs rfl)) fun σ H Q ⟨B, ρ, g, Q0, W0, rs, w, t, k, xc⟩ => ?_
  refine ⟨B, ρ, g, _, W0, rs, w, t, fun r g1 v H1 hq rv w1 f1 _ => ⟨by show 1 ≤ sizeLine; rw [sizeLine_eq]; omega, fun a na => ?_⟩, xc⟩
  obtain ⟨f2, w2, ga⟩ := Fr.laidV (u := .ext (IsX a (.ref c) none)) na w1
  exact k (.v (.exc C none)) g1 _ _ hq (.exc0 gk (by rw [hide_out (w1.new na)]; exact upd_same) ga) w2 (f1.trans f2) .no
theorem q_mkAt {k : Nat} (hr : Room (k + 2) X.A) (hg : Gl X C) (A : AtC X.prog X.w X.K X.mg X.base C) (tk : Takes X W) (hdb : (C == ("__debug__" : Str)) = false) (he : PE X e (LE X.K (WE W) te)) (hs : starEach [e] X.env = [(false, eval e X.env)]) :
    PE X (.Call (.Name C p) [e] [] cpos) (LE X.K (WE W) (wMkAt C te)) := by
  obtain ⟨c, fI, fd, gk, hm, T, iC, tI, hno, F, bd⟩ := A.ex
  refine PE.of (pe_mk (pmk_oex (ds := []) (dvs := []) (ta := tCons (LE X.K (WE W) te) tNil) T iC tI F (hr.mono (by omega)) bd .nil (passes_call tk fun _ _ _ _ z => z.elim) hg hm (pa_cons he pa_nil hs) hdb hs rfl)) fun σ H Q ⟨B, ρ, g, Q0, W0, rs, w, t, k, xc⟩ => ?_
  refine ⟨B, ρ, g, _, W0, rs, w, t, fun r g1 v H1 hq rv w1 f1 _ => ?_, xc⟩
  match r, rv, hq with
  | .v (.int i), rv, hq =>
    obtain rfl := int_of rv
    refine ⟨by simp, mk_at (Q := fun cls d H' => ∀ a, H' a = none → Q (.ref a) (upd H' a (.ext (IsX a cls d)))) T hno fun dx nx a na => ?_⟩
    obtain ⟨f2, w2, gd⟩ := Fr.laidV (u := .xd [("at", .int i)]) nx w1
    obtain ⟨f3, w3, ga⟩ := Fr.laidV (u := .ext (IsX a (.ref c) (some dx))) na w2
    have ne : dx ≠ a := fun z => by rw [← z, upd_same] at na; cases na
    exact k (.v (.exc C (some i))) g1 _ _ hq (.exc1 gk (by rw [hide_out (w2.new na)]; exact upd_same) ga (by rw [hide_out (w1.new nx), upd_ne ne]; exact upd_same) gd) w3 (f1.trans (f2.trans f3)) .no
/-- e.at -/
def wAt (xs : List Str) (te : TD) : TD := fun ρ g Q W => te ρ g (fun r g1 => match r with | .v (.exc C (some i)) => C ∈ xs ∧ Q (.v (.int i)) g1 | _ => False) W
theorem q_at {xs : List Str} {pos : Pos} (E : ExcW X.K xs) (he : PE X e (LE X.K (WE W) te)) (hb : attributeBase e "at" X.env (eval e X.env) = eval e X.env) : PE X (.Attribute e "at" pos) (LE X.K (WE W) (wAt xs te)) := by
  refine PE.of (pe_xat he hb) fun σ H Q ⟨B, ρ, g, Q0, W0, rs, w, t, k, xc⟩ => ?_
  refine ⟨B, ρ, g, _, W0, rs, w, t, fun r g1 v H1 hq rv w1 f1 _ => ?_, xc⟩
  match r, rv, hq with
  | .v (.exc C (some i)), .exc1 h1 h2 h3 h4 h5, ⟨hC, hq⟩ =>
    obtain ⟨o1, o2, o3, o4, o5, o6⟩ := E.one C hC
    rw [h1] at o1; cases o1
    exact ⟨_, _, _, _, _, rfl, ⟨(of_hide h2).1, _, (of_hide h4).1⟩, (of_hide h4).1, ⟨o2.hg, o2.hk, o2.hs, o2.hd⟩, o4, rfl, (k.after f1).here hq (.int i) w1⟩
end
end G3
/-! G3p: instances of classes: fields, methods, making one -/
namespace G3
open PySem PySem.Spec PyProof.Rows L2

/-! ### fields -/
def putFD (f : Str) (d : D) : List (Str × D) → List (Str × D)
  | [] => [(f, d)]
  | (g, x) :: r => if g = f then (g, d) :: r else (g, x) :: putFD f d r
section
variable {K : PySem.W.Frag} {H : Hp} {g : GH}
theorem Fields.lookup {f : Str} {d : D} : ∀ {r : List (Str × V)} {s : List (Str × D)}, Fields K H g r s → s.lookup f = some d → ∃ v, r.lookup f = some v ∧ Rep K H g v d
  | _, _, .nil, h => by cases h
  | _, _, .cons (f := k) x t, h => by
    by_cases e : f = k
    · have hb : (f == k) = true := beq_iff_eq.mpr e
      simp only [List.lookup, hb] at h ⊢
      cases h
      exact ⟨_, rfl, x⟩
    · have hb : (f == k) = false := beq_eq_false_iff_ne.mpr e
      simp only [List.lookup, hb] at h ⊢
      exact t.lookup h
theorem Fields.none {f : Str} : ∀ {r : List (Str × V)} {s : List (Str × D)}, Fields K H g r s → s.lookup f = none → r.lookup f = none
  | _, _, .nil, h => rfl
  | _, _, .cons (f := k) x t, h => by
    by_cases e : f = k
    · have hb : (f == k) = true := beq_iff_eq.mpr e
      simp only [List.lookup, hb] at h
      cases h
    · have hb : (f == k) = false := beq_eq_false_iff_ne.mpr e
      simp only [List.lookup, hb] at h ⊢
      exact t.none h
theorem Fields.put {f : Str} {v : V} {d : D} (q : Rep K H g v d) : ∀ {r : List (Str × V)} {s : List (Str × D)}, Fields K H g r s → Fields K H g (putF f v r) (putFD f d s)
  | _, _, .nil => .cons q .nil
  | _, _, .cons (f := k) x t => by
    unfold putF putFD
    split
    · exact .cons q t
    · exact .cons x (Fields.put q t)
theorem Fields.length : ∀ {r : List (Str × V)} {s : List (Str × D)}, Fields K H g r s → r.length = s.length
  | _, _, .nil => rfl
  | _, _, .cons x t => by rw [List.length_cons, List.length_cons, t.length]
theorem trk_ins {B : List Addr} {p : Addr} {C : Str} {xs : List (Str × D)} (w : Vw K B H g) (h : g p = some (.ins C xs)) : ∃ c dx vs, gaK K C = some c ∧ H p = some (.ins c dx vs) ∧ Fields K (hide H B) g vs xs := by
  obtain ⟨u, hu, r⟩ := w.rg p _ h
  cases r with
  | ins hc r => exact ⟨_, _, _, hc, (of_hide hu).1, r⟩
end
/-- e.f, e of the class C -/
def wFld (C f : Str) (te : TD) : TD := fun ρ g Q W => te ρ g (fun r g1 => match r with | .v (.ref a) => ∃ fs d, g1 a = some (.ins C fs) ∧ fs.lookup f = some d ∧ Q (.v d) g1 | _ => False) W
/-- o.m(..), o of the class C -/
def wMeth (C m : Str) (sp : GSp) (te : TD) (tr : TAD) : TD := fun ρ g Q W => te ρ g (fun r g1 => match r with | .v (.ref a) => (∃ fs, g1 a = some (.ins C fs) ∧ fs.lookup m = none) ∧ tr ρ g1 (fun ds g2 => sp (.ref a :: ds) g2 Q W) W | _ => False) W
/-- C(..) -/
def wNew (C : Str) (sp : GSp) (tr : TAD) : TD := fun ρ g Q W => tr ρ g (fun ds g1 => ∀ p, g1 p = none → sp (.ref p :: ds) (gup g1 p (.ins C [])) (fun r g2 => r = .v .non ∧ Q (.v (.ref p)) g2) W) W
/-- o.f = e -/
def wSfld (C f : Str) (to te : TD) : TSD := fun D ρ g => te ρ g (fun r g1 => to ρ g1 (fun x g2 => match x with
  | .v (.ref p) => ∃ fs, g2 p = some (.ins C fs) ∧ fs.length < 1000 ∧ D.nx ρ (gup g2 p (.ins C (putFD f r.fz fs)))
  | _ => False) (fun x g3 => D.ex x ρ g3)) (fun x g3 => D.ex x ρ g3)
section
variable {X : Cx} {W : L2.WX} {C f m : Str} {p pos apos : Pos} {e o value : Expr} {es : List Expr} {te to : TD} {tr : TAD} {sp : GSp} {k : Nat} {fa c : Addr} {fd : FuncData} {ps : List Str}
theorem q_fld (gk : gaK X.K C = some c) (cl : Cls X.K c) (na : NoAttr X.K c f) (he : PE X e (LE X.K (WE W) te)) (hb : attributeBase e f X.env (eval e X.env) = eval e X.env) : PE X (.Attribute e f pos) (LE X.K (WE W) (wFld C f te)) := by
  refine PE.of (pe_fld he hb) fun σ H Q ⟨B, ρ, g, Q0, W0, rs, w, t, k, xc⟩ => ?_
  refine ⟨B, ρ, g, _, W0, rs, w, t, fun r g1 v H1 hq rv w1 f1 _ => ?_, xc⟩
  match r, rv, hq with
  | .v (.ref a), rv, ⟨fs, d, hg, hl, hq⟩ =>
    cases rv
    obtain ⟨c', dx, vs, hc, hH, hf⟩ := trk_ins w1 hg
    rw [gk] at hc; cases hc
    obtain ⟨v, hv, rv⟩ := hf.lookup hl
    exact ⟨a, c, dx, vs, v, rfl, hH, cl, na, hv, (k.after f1).here hq rv w1⟩
theorem s_fld (gk : gaK X.K C = some c) (cl : Cls X.K c) (na : NoAttr X.K c f) (ho : PE X o (LE X.K (WE W) to)) (hv : PE X value (LE X.K (WE W) te)) (hs : swapsWith value (some (.Attribute o f apos)) pos.line X.env = pure false) :
    PS X (.Assign [.Attribute o f apos] value pos) (LS X.K W (wSfld C f to te)) := by
  refine PS.of (ps_fld ho hv hs) fun D σ H ⟨B, ρ, g, D0, rs, w, q, k⟩ => ?_
  refine ⟨B, ρ, g, _, _, rs, w, q, fun r g1 v H1 hq rv w1 f1 _ => ?_, k.xc rs w⟩
  refine ⟨B, ρ, g1, _, _, rs.fv w f1, w1, hq, fun x g2 ov H2 hq rx w2 f2 _ => ?_, (k.after f1).xc (rs.fv w f1) w1⟩
  match x, rx, hq with
  | .v (.ref a), rx, ⟨fs, hg, hl, hq⟩ =>
    cases rx
    obtain ⟨c', dx, vs, hc, hH, hf⟩ := trk_ins w2 hg
    rw [gk] at hc; cases hc
    have f12 := f1.trans f2
    obtain ⟨f3, w3⟩ := Fr.writeV (u' := .ins c dx (putF f v vs)) (o' := .ins C (putFD f r.fz fs)) hH hg (fun _ e => by cases e) (fun _ _ e => by cases e) w2 (.ins gk (hf.put (rv.fv w1 f2)))
    exact ⟨a, c, dx, vs, rfl, hH, cl, na, by rw [hf.length]; exact hl, k.nx ρ _ σ _ hq (rs.fv w (f12.trans f3)) w3 (f12.trans f3)⟩

/-! ### reversed(a list), walked -/
theorem itVL {K : PySem.W.Frag} {B : List Addr} {H0 : Hp} {g0 : GH} {a : Addr} {ds : List D} {gd : GH → Prop} (io : ItOk K B H0 g0 (Itl K a) ds gd) : ItOk K B H0 g0 (Itv K a ds.length) ds.reverse gd := by
  intro B' i H g sB nB w f hg
  obtain ⟨go, st⟩ := io B' (ds.length - 1 - i) H g sB nB w f hg
  refine ⟨fun d hd => ?_, fun hi => by rw [List.length_reverse] at hi; exact Nat.le_of_eq hi.symm⟩
  have hi := (List.getElem?_eq_some_iff.mp hd).1
  rw [List.length_reverse] at hi
  rw [List.getElem?_reverse hi] at hd
  obtain ⟨⟨xs, v, hs, hv⟩, yl⟩ := go d hd
  exact ⟨⟨hi, xs, v, hs, hv⟩, fun x H' hy => yl x H' hy⟩
def wRevL (tr : TAD) : TID := fun ρ g Q W => tr ρ g (fun ds g1 => match ds with | [d] => ∃ xs, lstOf g1 (.v d) xs ∧ Q xs.reverse (gdOf (.v d) xs) g1 | _ => False) W
theorem q_revL {tg : Expr} {E : L2.St → XK} (h : PI X tg e (iRev X.K (LA X.K E tr))) : PI X tg e (LI X.K E (wRevL tr)) :=
  PI.of h fun σ H R ⟨B, ρ, g, Q0, W0, rs, rg, t, c, xc⟩ => ⟨B, ρ, g, _, W0, rs, rg, t, fun ds g1 vs H1 hq rd w1 f1 => by
    match ds, rd, hq with
    | [d], .cons r .nil, ⟨xs, hl, hq⟩ =>
      obtain ⟨a, ws, rfl, ha, rv, io⟩ := lstOf.cases (r := .v d) w1 r hl
      have e := rv.length
      exact ⟨a, ws, rfl, .inl (.inl ha), by rw [e]; exact c _ _ g1 _ H1 hq (itVL io) w1 f1⟩, xc⟩
/-! ### a < b < c < d -/
def tChain3 (r r' r'' : R2) (ta tb tc td : TE) : TE := fun σ H Q => ta σ H fun x H1 => tb σ H1 fun y H2 => r x y H2 fun z H3 => ∃ k, z = .bl k ∧
  (if k = true then tc σ H3 fun w' H4 => r' y w' H4 fun z' H5 => ∃ k', z' = .bl k' ∧ (if k' = true then td σ H5 fun v H6 => r'' w' v H6 Q else Q (.bl false) H5) else Q (.bl false) H3)
theorem pe_chain3 {a b c d : Expr} {ta tb tc td : TE} {op op' op'' : CmpOp} {r r' r'' : R2} (ho : OpR X (compareOp op) r) (ho' : OpR X (compareOp op') r') (ho'' : OpR X (compareOp op'') r'') (ha : PE X a ta) (hb : PE X b tb) (hc : PE X c tc) (hd : PE X d td)
    (hm : lastMarks [op, op', op''] [b, c, d] = false) : PE X (.Compare a [op, op', op''] [b, c, d] pos) (tChain3 r r' r'' ta tb tc td) := by
  refine ⟨fun pins s σ H Q I h => ?_⟩
  refine Compare_chain (thn (ha.run pins s σ H _ I h) fun v s1 ⟨x, H1, I1, r1, q1⟩ => chain_link (thn (hb.run pins s1 σ H1 _ I1 q1) fun u s2 ⟨y, H2, I2, r2, q2⟩ =>
    thn (ho pins s2 σ H2 x y v u _ I2 r1 r2 q2) fun d s3 ⟨z, H3, I3, r3, k, e, q3⟩ => ?_)) hm
  subst e
  cases r3
  refine wpAny_truthy_bool ?_
  cases k with
  | false => exact ite_ff ⟨.bl false, H3, I3, rfl, q3⟩
  | true =>
    refine ite_tt (chain_link (thn (hc.run pins s3 σ H3 _ I3 q3) fun w' s4 ⟨z', H4, I4, r4, q4⟩ => thn (ho' pins s4 σ H4 y z' u w' _ I4 r2 r4 q4) fun d' s5 ⟨z2, H5, I5, r5, k2, e2, q5⟩ => ?_))
    subst e2
    cases r5
    refine wpAny_truthy_bool ?_
    cases k2 with
    | false => exact ite_ff ⟨.bl false, H5, I5, rfl, q5⟩
    | true => exact ite_tt (chain_last (thn (hd.run pins s5 σ H5 _ I5 q5) fun w2 s6 ⟨z3, H6, I6, r6, q6⟩ => ho'' pins s6 σ H6 z' z3 w' w2 Q I6 r4 r6 q6))
theorem pt_chain3 {a b c d : Expr} {ta tb tc td : TE} {op op' op'' : CmpOp} {r r' r'' : R2} (ho : OpR X (compareOp op) r) (ho' : OpR X (compareOp op') r') (ho'' : OpR X (compareOp op'') r'') (ha : PE X a ta) (hb : PE X b tb) (hc : PE X c tc) (hd : PE X d td)
    (hm : lastMarks [op, op', op''] [b, c, d] = false) : PT X (.Compare a [op, op', op''] [b, c, d] pos) (tTest (tChain3 r r' r'' ta tb tc td)) := by
  refine ⟨fun pins s σ H Q I h => ?_⟩
  refine isTrue_chain (thn (ha.run pins s σ H _ I h) fun v s1 ⟨x, H1, I1, r1, q1⟩ => test_link (thn (hb.run pins s1 σ H1 _ I1 q1) fun u s2 ⟨y, H2, I2, r2, q2⟩ =>
    thn (ho pins s2 σ H2 x y v u _ I2 r1 r2 q2) fun d s3 ⟨z, H3, I3, r3, k, e, q3⟩ => ?_)) hm
  subst e
  cases r3
  refine wpAny_truthy_bool ?_
  cases k with
  | false =>
    obtain ⟨k', e', q'⟩ := q3
    cases e'
    exact ite_ff ⟨H3, I3, q'⟩
  | true =>
    refine ite_tt (test_link (thn (hc.run pins s3 σ H3 _ I3 q3) fun w' s4 ⟨z', H4, I4, r4, q4⟩ => thn (ho' pins s4 σ H4 y z' u w' _ I4 r2 r4 q4) fun d' s5 ⟨z2, H5, I5, r5, k2, e2, q5⟩ => ?_))
    subst e2
    cases r5
    refine wpAny_truthy_bool ?_
    cases k2 with
    | false =>
      obtain ⟨k', e', q'⟩ := q5
      cases e'
      exact ite_ff ⟨H5, I5, q'⟩
    | true =>
      refine ite_tt (test_last (thn (hd.run pins s5 σ H5 _ I5 q5) fun w2 s6 ⟨z3, H6, I6, r6, q6⟩ => thn (ho'' pins s6 σ H6 z' z3 w' w2 _ I6 r4 r6 q6) fun d2 s7 ⟨z4, H7, I7, r7, k3, e3, q7⟩ => ?_))
      subst e3
      cases r7
      exact wpAny_truthy_bool ⟨H7, I7, q7⟩
/-- a < b < c < d -/
def wCh3 (f f' f'' : R → R → GH → QK → Prop) (ta tb tc td : TD) : TD := fun ρ g Q W => ta ρ g (fun x g1 => tb ρ g1 (fun y g2 => f x y g2 fun z g3 => match z with
  | .v (.bl k) => if k = true then tc ρ g3 (fun u g4 => f' (.v y.fz) u g4 fun z' g5 => match z' with
    | .v (.bl k') => if k' = true then td ρ g5 (fun v g6 => f'' (.v u.fz) v g6 Q) W else Q (.v (.bl false)) g5
    | _ => False) W else Q (.v (.bl false)) g3
  | _ => False) W) W
theorem q_chain3 {a b d e : Expr} {o1 o2 o3 : R → R → GH → QK → Prop} {ta tb tc td : TD} {r r' r'' : R2} (h1 : R2Ok X.K o1 r) (h2 : R2Ok X.K o2 r') (h3 : R2Ok X.K o3 r'') {σ : L2.St} {H : Hp} {Q : VK} (h : LE X.K (WE W) (wCh3 o1 o2 o3 ta tb tc td) σ H Q) :
    tChain3 r r' r'' (LE X.K (WE W) ta) (LE X.K (WE W) tb) (LE X.K (WE W) tc) (LE X.K (WE W) td) σ H Q := by
  obtain ⟨B, ρ, g, Q0, W0, rs, w, t, c, xc⟩ := h
  refine ⟨B, ρ, g, _, W0, rs, w, t, fun x g1 v H1 hb rx w1 f1 _ => ?_, xc⟩
  refine ⟨B, ρ, g1, _, W0, rs.fv w f1, w1, hb, fun y g2 u H2 hb ry w2 f2 _ => ?_, xc.after f1⟩
  refine h1 v u x y B H2 g2 _ _ (rx.fv w1 f2) ry w2 hb fun z g3 zv H3 hz rz w3 f3 _ => ?_
  have f23 := f2.trans f3
  match z, rz, hz with
  | .v (.bl k), rz, hz =>
    refine ⟨k, bl_of rz, ?_⟩
    cases k with
    | false => exact (c.after (f1.trans f23)).here hz (.bl false) w3
    | true =>
      refine ⟨B, ρ, g3, _, W0, rs.fv w (f1.trans f23), w3, hz, fun z' g4 zv' H4 hb rz' w4 f4 _ => ?_, xc.after (f1.trans f23)⟩
      refine h2 u zv' (.v y.fz) z' B H4 g4 _ _ (ry.fv w2 (f3.trans f4)) rz' w4 hb fun z2 g5 zv2 H5 hz2 rz2 w5 f5 _ => ?_
      have f45 := f4.trans f5
      match z2, rz2, hz2 with
      | .v (.bl k'), rz2, hz2 =>
        refine ⟨k', bl_of rz2, ?_⟩
        cases k' with
        | false => exact (c.after (f1.trans (f23.trans f45))).here hz2 (.bl false) w5
        | true =>
          refine ⟨B, ρ, g5, _, W0, rs.fv w (f1.trans (f23.trans f45)), w5, hz2, fun z3 g6 zv3 H6 hb rz3 w6 f6 _ => ?_, xc.after (f1.trans (f23.trans f45))⟩
          exact h3 zv' zv3 (.v z'.fz) z3 B H6 g6 Q0 Q (rz'.fv w4 (f5.trans f6)) rz3 w6 hb (c.after (f1.trans (f23.trans (f45.trans f6))))
      | .v .non, _, hb | .v (.int _), _, hb | .v (.str _), _, hb | .v (.ty _), _, hb | .v (.ref _), _, hb | .v (.tup _), _, hb | .v (.lst _), _, hb | .v (.rl _), _, hb | .tl _, _, hb => exact hb.elim
  | .v .non, _, hb | .v (.int _), _, hb | .v (.str _), _, hb | .v (.ty _), _, hb | .v (.ref _), _, hb | .v (.tup _), _, hb | .v (.lst _), _, hb | .v (.rl _), _, hb | .tl _, _, hb => exact hb.elim

/-! ### methods -/
/-- what a method's receiver is asked -/
def plainM (o : Expr) (env : PySem.Env) : Sem Bool := do return (← importBound o env).getD true
theorem mcall_M {o : Expr} {m : Str} {apos pos : Pos} {env : PySem.Env} {ov : Value} {n : Nat} {args : List (Bool × Sem Value)} {kws : List (Option Str × Sem Value)} (hf : methodCallForm n args kws = true) (hl : (apos.endLine == pos.line) = true) :
    methodCall o m apos pos env ov n args kws = (do
      let (f, first) ← holding [ov] (getMethod ov m (plainM o env))
      callWith pos f first args kws) := by
  have e1 : calleeOf (methodCallForm n args kws) o env ov m = getMethod ov m (plainM o env) := by
    rw [hf] <;> rfl
  have e2 : methodCallPos (methodCallForm n args kws) o env apos pos = pure pos := by
    unfold methodCallPos
    exact if_pos (by rw [hl, Bool.or_true])
  unfold methodCall
  rw [e1, e2]
  first
    | rfl
    | simp only [pure_bind]
theorem meth_tree {env : PySem.Env} (hb : attributeBase o m env (eval o env) = eval o env) (hf : methodCallForm (es.length + 0) (backTo pos (starEach es env)) (backToKw pos (keywordEach [] env)) = true) (hl : (apos.endLine == pos.line) = true) :
    eval (.Call (.Attribute o m apos) es [] pos) env = (do
      let ov ← eval o env
      standAt apos.atName
      let (f, first) ← holding [ov] (getMethod ov m (plainM o env))
      callWith pos f first (backTo pos (starEach es env)) (backToKw pos (keywordEach [] env))) := by
  rw [arm_eval_Call, hb]
  have e : ∀ ov, methodCall o m apos pos env ov (es.length + ([] : List Keyword).length) (backTo pos (starEach es env)) (backToKw pos (keywordEach [] env)) = _ := fun ov => mcall_M (o := o) (m := m) (ov := ov) hf hl
  simp only [e]
def tMethS (K : PySem.W.Frag) (C : Addr) (m : Str) (sp : GSp) (E : L2.St → XK) (ta : TE) (t : TA) : TE := fun σ H Q => ta σ H fun x H1 => ∃ a dx fs, x = .ref a ∧ H1 a = some (.ins C dx fs) ∧ fs.lookup m = none ∧
  t σ H1 fun vs H2 => liftSp K sp (x :: vs) H2 Q (E σ)
theorem meth_imp {K : PySem.W.Frag} (gk : gaK K C = some c) {σ : L2.St} {H : Hp} {Q : VK} (h : LE K (WE W) (wMeth C m sp te tr) σ H Q) : tMethS K c m sp (WE W) (LE K (WE W) te) (LA K (WE W) tr) σ H Q := by
  obtain ⟨B, ρ, g, Q0, W0, rs, w, t, k, xc⟩ := h
  refine ⟨B, ρ, g, _, W0, rs, w, t, fun r g1 v H1 hq rv w1 f1 _ => ?_, xc⟩
  match r, rv, hq with
  | .v (.ref a), rv, ⟨⟨fs, hg, hl⟩, hq⟩ =>
    cases rv
    obtain ⟨c', dx, vs, hc, hH, hf⟩ := trk_ins w1 hg
    rw [gk] at hc; cases hc
    refine ⟨a, dx, vs, rfl, hH, hf.none hl, B, ρ, g1, _, W0, rs.fv w f1, w1, hq, fun ds g2 us H2 hq ru w2 f2 => ?_, xc.after f1⟩
    exact ⟨B, g2, _, Q0, W0, w2, .cons (.ref a) ru, hq, k.after (f1.trans f2), xc.after (f1.trans f2)⟩
theorem la_nil0 {K : PySem.W.Frag} {E : L2.St → XK} {σ : L2.St} {H : Hp} {Q : List V → Hp → Prop} (h : LA K E wNil σ H Q) : Q [] H := by
  obtain ⟨B, ρ, g, Q0, W0, rs, w, t, c, xc⟩ := h
  exact c [] g [] H t .nil w (Fr.refl _ _)
theorem q_meth (F : FnG X.prog X.w X.K X.mg X.base k fa fd ps sp) (gu : X.A.guards = some []) (hr : Room k X.A) (gk : gaK X.K C = some c) (cl : Cls X.K c) (hm : Meth X.K c m fa) (hb : Binds X.K fd ps []) (tk : Takes X W)
    (ho : PE X o (LE X.K (WE W) to)) (ha : PA X (e :: es) (LA X.K (WE W) tr)) (hbase : attributeBase o m X.env (eval o X.env) = eval o X.env)
    (hf : methodCallForm ((e :: es).length + 0) (backTo pos (starEach (e :: es) X.env)) (backToKw pos (keywordEach [] X.env)) = true) (hl : (apos.endLine == pos.line) = true)
    (hs : starEach (e :: es) X.env = (false, eval e X.env) :: starEach es X.env) (hp : (backTo pos (starEach es X.env)).any (·.1) = false) :
    PE X (.Call (.Attribute o m apos) (e :: es) [] pos) (LE X.K (WE W) (wMeth C m sp to tr)) := by
  refine PE.of (t' := tMethS X.K c m sp (WE W) (LE X.K (WE W) to) (LA X.K (WE W) tr)) ?_ fun σ H Q h => meth_imp gk h
  refine ⟨fun pins s σ H Q I h => ?_⟩
  refine PySem.W.methodCall_KW (pl := plainM o X.env) (thn (ho.run pins s σ H _ I h) fun u s1 ⟨x, H1, I1, rx, a, dx, fs, ex, ea, l, q⟩ => ?_) (meth_tree hbase hf hl)
  subst ex
  obtain rfl : u = Value.ref a := rx
  refine getmeth_ok I1 ea cl hm l ?_
  refine PySem.W.callWith_K (first := [.ref a]) (h₀ := X.base) I.ok.mod.kin hm.kp (thn (ha.run pos pins s1 σ H1 _ I1 q) fun us s2 ⟨vs, H2, I2, r, q2⟩ => ⟨I2.kIn, ?_⟩) hs hp
  exact F.at_ (us := .ref a :: us) (vs := .ref a :: vs) gu hr hb tk I2 (.cons rfl r) q2
theorem q_meth0 (F : FnG X.prog X.w X.K X.mg X.base k fa fd ps sp) (gu : X.A.guards = some []) (hr : Room k X.A) (gk : gaK X.K C = some c) (cl : Cls X.K c) (hm : Meth X.K c m fa) (hb : Binds X.K fd ps []) (tk : Takes X W)
    (ho : PE X o (LE X.K (WE W) to)) (hbase : attributeBase o m X.env (eval o X.env) = eval o X.env) (hl : (apos.endLine == pos.line) = true) :
    PE X (.Call (.Attribute o m apos) [] [] pos) (LE X.K (WE W) (wMeth C m sp to wNil)) := by
  refine PE.of (t' := tMethS X.K c m sp (WE W) (LE X.K (WE W) to) (LA X.K (WE W) wNil)) ?_ fun σ H Q h => meth_imp gk h
  refine ⟨fun pins s σ H Q I h => ?_⟩
  refine PySem.W.methodCall_KW (pl := plainM o X.env) (thn (ho.run pins s σ H _ I h) fun u s1 ⟨x, H1, I1, rx, a, dx, fs, ex, ea, l, q⟩ => ?_) (meth_tree hbase rfl hl)
  subst ex
  obtain rfl : u = Value.ref a := rx
  refine getmeth_ok I1 ea cl hm l ?_
  exact PySem.W.callWith_K0 (first := [.ref a]) I1.kIn hm.kp (F.at_ (us := [.ref a]) (vs := [.ref a]) gu hr hb tk I1 (.cons rfl .nil) (la_nil0 q))

/-! ### making one -/
theorem make_guards {A : Around} {C : Addr} {us : List Value} {kw : List (Str × Value)} (h : A.guards = some []) : (A.under (.builtin "type.__call__" ⟨.ref C :: us, kw⟩)).guards = some [] := by
  first
    | exact h
    | (simp [Around.under, Code.guards, Code.isGuard, guardIds, pushGuards]; exact h)
theorem run_makeG (M : Mk X.K c fa) (F : FnG X.prog X.w X.K X.mg X.base k fa fd ps sp) (gu : X.A.guards = some []) (hr : Room (k + 1) X.A) (hb : Binds X.K fd ps []) (tk : Takes X W) {pins : List (Addr × Obj)} {σ : L2.St} {H : Hp} {s : Shared} {Q : VK} {us : List Value} {vs : List V}
    (I : Inv X pins σ H s) (r : Vals vs us)
    (h : ∀ x dx, H x = none → H dx = none → dx ≠ x → liftSp X.K sp (.ref x :: vs) (upd (upd H dx (.own x)) x (.ins c dx [])) (fun v H2 => v = .non ∧ Q (.ref x) H2) (WE W σ)) :
    wpAny (model X.prog X.w) X.A (call (.ref c) us) (EP X pins σ Q) X.xe s := by
  have hq := h (s.heap.objs.size + 1) s.heap.objs.size (I.hok.fresh (Nat.le_succ _)) (I.hok.fresh (Nat.le_refl _)) (Nat.ne_of_lt (Nat.lt_succ_self _))
  have I2 := Inv.made (C := c) I
  have r2 : Vals (V.ref (s.heap.objs.size + 1) :: vs) (Value.ref (s.heap.objs.size + 1) :: us) := .cons rfl r
  have hl : (Value.ref (s.heap.objs.size + 1) :: us).length = ps.length := by
    rw [← r2.length]; exact F.len hq
  have bnd : ∀ s', X.K.In s'.heap → BindsTo s' fd ⟨Value.ref (s.heap.objs.size + 1) :: us, []⟩ (ps.zip (Value.ref (s.heap.objs.size + 1) :: us)) := fun s' z => by
    have := hb s' (Value.ref (s.heap.objs.size + 1) :: us) z (by rw [List.append_nil]; exact hl)
    rwa [List.append_nil] at this
  refine wpAny_call (make_map (f := fa) I.kIn M.makes M.init (beq_iff_eq.mp M.fn) (codeAny_mono (F.go _ X.stack _ _ ⟨Value.ref (s.heap.objs.size + 1) :: us, []⟩ (Value.ref (s.heap.objs.size + 1) :: us) _ _ (WE W σ) (make_guards gu) (hr.make c us [])
    (I2.env0.make c us []) (bnd _ I2.kIn) r2 hq) fun r s' hq' => ?_))
  cases r with
  | error e => exact passAt tk σ pins _ _ e s' I2 hq'
  | ok fl =>
    cases fl with
    | ret u =>
      obtain ⟨v, H', I3, rv, ev, q3⟩ := I2.after hq'
      subst ev
      exact ⟨rv, ⟨V.ref (s.heap.objs.size + 1), H', I3, rfl, q3⟩⟩
    | next => exact False.elim hq'
    | brk => exact False.elim hq'
    | cont => exact False.elim hq'
def tNewS (K : PySem.W.Frag) (c : Addr) (sp : GSp) (E : L2.St → XK) (t : TA) : TE := fun σ H Q => t σ H fun vs H1 => ∀ x dx, H1 x = none → H1 dx = none → dx ≠ x →
  liftSp K sp (.ref x :: vs) (upd (upd H1 dx (.own x)) x (.ins c dx [])) (fun v H2 => v = .non ∧ Q (.ref x) H2) (E σ)
theorem new_imp {K : PySem.W.Frag} (gk : gaK K C = some c) {σ : L2.St} {H : Hp} {Q : VK} (h : LE K (WE W) (wNew C sp tr) σ H Q) : tNewS K c sp (WE W) (LA K (WE W) tr) σ H Q := by
  obtain ⟨B, ρ, g, Q0, W0, rs, w, t, k, xc⟩ := h
  refine ⟨B, ρ, g, _, W0, rs, w, t, fun ds g1 vs H1 hq rv w1 f1 x dx nx nd ne => ?_, xc⟩
  obtain ⟨f2, w2, gd⟩ := Fr.laidV (u := .own x) nd w1
  have nx2 : upd H1 dx (.own x) x = none := by rw [upd_ne ne.symm]; exact nx
  obtain ⟨f3, w3, gx⟩ := Fr.laidV (u := .ins c dx []) nx2 w2
  have w4 : Vw K B (upd (upd H1 dx (.own x)) x (.ins c dx [])) (gup g1 x (.ins C [])) := by
    refine ⟨fun b m => w3.dom b m, RepG.track (H := hide (upd (upd H1 dx (.own x)) x (.ins c dx [])) B) (H0 := hide (upd H1 dx (.own x)) B) (by rw [hide_out (w2.new nx2)]; exact upd_same) (fun b z h => ?_) w2.rg (.ins gk .nil)⟩
    exact ⟨ne_of_none h (w2.hn nx2), by rw [hide_upd (w2.new nx2), upd_ne (ne_of_none h (w2.hn nx2))]; exact h⟩
  have f4 : Fr H g (upd (upd H1 dx (.own x)) x (.ins c dx [])) (gup g1 x (.ins C [])) := f1.trans (f2.trans (f3.track nx2))
  refine ⟨B, gup g1 x (.ins C []), _, _, W0, w4, .cons (.ref x) (rv.monoR fun v d z => z.fr ?_ ?_), hq x gx, fun d g' v H' q rd w' f fr => ?_, xc.after f4⟩
  · exact w1.rg
  · exact (f2.trans (f3.track nx2)).hd B
  · obtain ⟨rfl, q⟩ := q
    exact ⟨by cases rd; rfl, k (.v (.ref x)) g' (.ref x) H' q (.ref x) w' (f4.trans f) .no⟩
theorem q_new {x : Str} (M : Mk X.K c fa) (F : FnG X.prog X.w X.K X.mg X.base k fa fd ps sp) (gu : X.A.guards = some []) (hr : Room (k + 1) X.A) (gk : gaK X.K x = some c) (hg : Gl X x) (hm : X.mg x = some (.ref c)) (hb : Binds X.K fd ps []) (tk : Takes X W)
    (ha : PA X (e :: es) (LA X.K (WE W) tr)) (hdb : (x == ("__debug__" : Str)) = false) (he : starEach (e :: es) X.env = (false, eval e X.env) :: starEach es X.env) (hpl : (backTo pos (starEach es X.env)).any (·.1) = false) :
    PE X (.Call (.Name x p) (e :: es) [] pos) (LE X.K (WE W) (wNew x sp tr)) := by
  refine PE.of (t' := tNewS X.K c sp (WE W) (LA X.K (WE W) tr)) ?_ fun σ H Q h => new_imp gk h
  refine ⟨fun pins s σ H Q I h => ?_⟩
  refine wpAny_Call_Name_kw (ld_glob I hg hm ?_ hdb)
  refine PySem.W.callWith_K (h₀ := X.base) I.ok.mod.kin M.kp (thn (ha.run pos pins s σ H _ I h) fun us s1 ⟨vs, H1, I1, r, q⟩ => ⟨I1.kIn, ?_⟩) he hpl
  exact run_makeG M F gu hr hb tk I1 r q
theorem q_new0 {x : Str} (M : Mk X.K c fa) (F : FnG X.prog X.w X.K X.mg X.base k fa fd ps sp) (gu : X.A.guards = some []) (hr : Room (k + 1) X.A) (gk : gaK X.K x = some c) (hg : Gl X x) (hm : X.mg x = some (.ref c)) (hb : Binds X.K fd ps []) (tk : Takes X W)
    (hdb : (x == ("__debug__" : Str)) = false) : PE X (.Call (.Name x p) [] [] pos) (LE X.K (WE W) (wNew x sp wNil)) := by
  refine PE.of (t' := tNewS X.K c sp (WE W) (LA X.K (WE W) wNil)) ?_ fun σ H Q h => new_imp gk h
  refine ⟨fun pins s σ H Q I h => ?_⟩
  refine wpAny_Call_Name_kw (ld_glob I hg hm ?_ hdb)
  exact PySem.W.callWith_K0 I.kIn M.kp (run_makeG (us := []) M F gu hr hb tk I .nil (la_nil1 h))
end
end G3
/-! G3: fields as targets of a tuple -/
namespace G3
open PySem L2
section
variable {X : Cx} {W : L2.WX} {C f f' : Str} {p pos apos apos' tpos : Pos} {e o o' value : Expr} {te to to' : TD} {ta : TE} {c : Addr} {k : Nat}
/-- o.f as a target -/
def gFld (K : PySem.W.Frag) (ta : TE) (f : Str) : TG := fun y σ H Q => ta σ H fun x H1 => ∃ a C dx fs, x = .ref a ∧ H1 a = some (.ins C dx fs) ∧ Cls K C ∧ NoAttr K C f ∧ fs.length < 1000 ∧ Q σ (upd H1 a (.ins C dx (putF f y fs)))
theorem pg_fld (ha : PE X o ta) : PG X (.Attribute o f pos) (gFld X.K ta f) := by
  refine ⟨fun pins s σ H v u Q I r h => ?_⟩
  rw [assign_Attribute]
  refine wpAny_bind (wpAny_holding (thn (ha.run pins s σ H _ I h) fun ov s1 ⟨x, H1, I1, rx, a, C, dx, fs, ex, ea, cl, na, l, q⟩ => ?_))
  subst ex
  obtain rfl : ov = Value.ref a := rx
  refine wpAny_bind (wpAny_standAt (wpAny_bind (wpAny_holding ?_)))
  exact setattr_ok I1 ea cl na l r fun s3 I3 => wpAny_release ⟨σ, _, I3, q⟩
/-- o.f, o'.f' = e, both of the class C -/
def wSfld2 (C f f' : Str) (to to' te : TD) : TSD := fun D ρ g => te ρ g (fun r g1 => match r with
  | .v (.tup [x, y]) => to ρ g1 (fun q g2 => match q with
    | .v (.ref p) => ∃ fs, g2 p = some (.ins C fs) ∧ fs.length < 1000 ∧ to' ρ (gup g2 p (.ins C (putFD f x fs))) (fun q' g3 => match q' with
      | .v (.ref p') => ∃ fs', g3 p' = some (.ins C fs') ∧ fs'.length < 1000 ∧ D.nx ρ (gup g3 p' (.ins C (putFD f' y fs')))
      | _ => False) (fun x g3 => D.ex x ρ g3)
    | _ => False) (fun x g3 => D.ex x ρ g3)
  | _ => False) (fun x g3 => D.ex x ρ g3)
theorem s_fld2 (gk : gaK X.K C = some c) (cl : Cls X.K c) (na : NoAttr X.K c f) (na' : NoAttr X.K c f') (ho : PE X o (LE X.K (WE W) to)) (ho' : PE X o' (LE X.K (WE W) to')) (hv : PE X value (LE X.K (WE W) te)) (hc : X.calm = true)
    (hs : swapsWithSole [.Tuple [.Attribute o f apos, .Attribute o' f' apos'] k tpos] value pos.line X.env = pure false) (hw : swappedStores [.Tuple [.Attribute o f apos, .Attribute o' f' apos'] k tpos] value X.env = pure none) :
    PS X (.Assign [.Tuple [.Attribute o f apos, .Attribute o' f' apos'] k tpos] value pos) (LS X.K W (wSfld2 C f f' to to' te)) := by
  refine PS.of (ps_asg hv (pg_tup (n := 2) hc (pgs_cons (pg_fld ho) (pgs_cons (pg_fld ho') pgs_nil))) hs hw) fun D σ H ⟨B, ρ, g, D0, rs, w, q, k⟩ => ?_
  refine ⟨B, ρ, g, _, _, rs, w, q, fun r g1 v H1 hq rv w1 f1 _ => ?_, k.xc rs w⟩
  match r, rv, hq with
  | .v (.tup [x, y]), rv, hq =>
    cases rv with
    | tup ht rr =>
      cases rr with
      | cons r1 rr =>
        cases rr with
        | cons r2 rr =>
          cases rr
          refine ⟨_, _, rfl, .inl (.inl (of_hide ht).1), rfl, _, _, rfl, ?_⟩
          refine ⟨B, ρ, g1, _, _, rs.fv w f1, w1, hq, fun qx g2 ov H2 hq rx w2 f2 _ => ?_, (k.after f1).xc (rs.fv w f1) w1⟩
          match qx, rx, hq with
          | .v (.ref a), rx, ⟨fs, hg, hl, hq⟩ =>
            cases rx
            obtain ⟨c', dx, vs, hcc, hH, hf⟩ := trk_ins w2 hg
            rw [gk] at hcc; cases hcc
            have f12 := f1.trans f2
            obtain ⟨f3, w3⟩ := Fr.writeV (u' := .ins c dx (putF f _ vs)) (o' := .ins C (putFD f x fs)) hH hg (fun _ e => by cases e) (fun _ _ e => by cases e) w2 (.ins gk (hf.put (r1.fv w1 f2)))
            refine ⟨a, c, dx, vs, rfl, hH, cl, na, by rw [hf.length]; exact hl, _, _, rfl, ?_⟩
            have f123 := f12.trans f3
            refine ⟨B, ρ, _, _, _, rs.fv w f123, w3, hq, fun qy g4 ov4 H4 hq4 ry w4 f4 _ => ?_, (k.after f123).xc (rs.fv w f123) w3⟩
            match qy, ry, hq4 with
            | .v (.ref a'), ry, ⟨fs', hg', hl', hq'⟩ =>
              cases ry
              obtain ⟨c2, dx', vs', hc2, hH', hf'⟩ := trk_ins w4 hg'
              rw [gk] at hc2; cases hc2
              have f234 := (f2.trans f3).trans f4
              obtain ⟨f5, w5⟩ := Fr.writeV (u' := .ins c dx' (putF f' _ vs')) (o' := .ins C (putFD f' y fs')) hH' hg' (fun _ e => by cases e) (fun _ _ e => by cases e) w4 (.ins gk (hf'.put (r2.fv w1 f234)))
              have fa := (f123.trans f4).trans f5
              exact ⟨a', c, dx', vs', rfl, hH', cl, na', by rw [hf'.length]; exact hl', rfl, k.nx ρ _ σ _ hq' (rs.fv w fa) w5 fa⟩
end
end G3
/-! G3s: sorted(set(x)), len(set(x)) of whole numbers -/
namespace G3
open PySem PySem.Spec PyProof.Rows L2
/-- the new set, still empty -/
abbrev eSet (w : World) : Obj := { cls := .type "set", dict := none, data := .set #[] 0 (.fresh 0 0 (!w.params.followText "set-order")) }
section
variable {P : Program} {w : World} {A : Around} {E : Value → Shared → Prop} {s : Shared}
/-- set(xs) of a list of whole numbers: its members -/
theorem set_of_list {l : Addr} {us : Array Value} (ns : List Int) {Q : Value → Shared → Prop} (quiet : A.handled = none) (at_l : s.heap.IsList l us) (nums : IntsAre us.toList ns) (small : ns.length + 1 < scanBound)
    (post : ∀ (hp : Heap) (tk c : Nat), SetR w hp s.heap.objs.size (fun j => decide (j ∈ ns)) c → c ≤ ns.length → (∀ b o, s.heap.get? b = some o → hp.get? b = some o) → Q (.ref s.heap.objs.size) { s with heap := hp, toks := tk }) : wpAny (model P w) A (call (.type "set") [.ref l]) Q E s := by
  have sz : us.size = ns.length := by simpa only [Array.length_toList] using IntsAre.length nums
  obtain ⟨_, _, mro⟩ := F.called_set.mro
  have made := F.called_set.made
  have subs := F.called_set.sub
  refine wpAny_call (codeAny_of_tree ?_)
  show wpAny _ _ (callAny (.type "set") _) _ _ _
  refine wpAny_pure ⟨Code.quiet_builtin _ (by decide +kernel), codeAny_builtin F.entry_type_call ?_⟩
  rw [Around.under_plain (weight_type_call_type "set" [.ref l] []) rfl]
  have f1 := F.called_set.notType
  have f2 := F.called_set.canCreate
  have f3 := F.typeCall_set_1 (.ref l)
  repeat (any_goals (first | assumption | wp_step))
  refine codeAny_mono (code_set_led1 (.ref l) (E := E) (Q₁ := fun x s1 => x = .ref s.heap.objs.size ∧ s1 = { s with heap := s.heap.push (eSet w) }) ⟨rfl, rfl⟩) fun r s1 got => ?_
  match r, got with
  | .error e, got => exact got
  | .ok (.ret x), got =>
    obtain ⟨rfl, rfl⟩ := got
    have fresh : (s.heap.push (eSet w)).get? s.heap.objs.size = some (eSet w) := Heap.get?_push_size _ rfl
    have kind : Shared.TypeIs { s with heap := s.heap.push (eSet w) } (.ref s.heap.objs.size) "set" := ⟨_, fresh, rfl⟩
    have g1 := F.called_set.init.lookup
    have g2 := F.called_set.init.bind (.ref s.heap.objs.size)
    repeat (any_goals (first | assumption | wp_step))
    refine codeAny_mono (codeAny_call_builtin (R := wants (fun r s2 => r = .none ∧ ∃ hp tk c, s2 = { s with heap := hp, toks := tk } ∧ SetR w hp s.heap.objs.size (fun j => decide (j ∈ ns)) c ∧ c ≤ ns.length ∧ (∀ b o, s.heap.get? b = some o → hp.get? b = some o)) E)
      F.called_set.init.plain F.entry_set_init (check_set_init_1 kind ?_)) fun r2 s2 got2 => ?_
    · obtain ⟨lo, at_lo, lcls, ln, ldat⟩ := at_l
      obtain ⟨c0, d0, x0, y0⟩ := lo
      simp only at lcls ldat
      subst lcls; subst ldat
      have seen : (s.heap.push (eSet w)).get? l = some { cls := .type "list", dict := d0, data := .seq us ln, slots := y0 } := Heap.get?_push_of_some _ at_lo
      have n1 := F.sub_list_set
      have n2 := F.sub_list_frozenset
      have n3 : (Value.type "list" == Value.type "dict") = false := by decide
      have still : (s.heap.push (eSet w)).IsList l us := ⟨_, seen, rfl, ln, rfl⟩
      unfold Builtin.«set.__init__» noKeywords Builtin.Frozenset.updateFrom
      generalize keep : pyIter = PI
      wp_walk
      subst keep
      refine wpAny_pyIter_list still (wpAny_bind (wpAny_runValue ?_))
      have older : l < s.heap.objs.size := Heap.lt_size at_lo
      have quiet3 : A.in1.in1.in1.handled = none := by simp [quiet]
      have ne1 : l ≠ (s.heap.push (eSet w)).objs.size := by
        rw [Heap.size_push]; exact Nat.ne_of_lt (Nat.lt_succ_of_lt older)
      have out1 : s.heap.objs.size ∉ [(s.heap.push (eSet w)).objs.size, l] := by
        rw [Heap.size_push]; simp only [List.mem_cons, List.not_mem_nil, or_false, not_or]; exact ⟨Nat.ne_of_lt (Nat.lt_succ_self _), Nat.ne_of_gt older⟩
      have each : ∀ (i : Nat) (v : Value), us[i]? = some v → ∃ k t, ns[i]? = some k ∧ v = .int k t := fun i v hv => by
        have lt : i < ns.length := by rw [← sz]; exact (Array.getElem?_eq_some_iff.mp hv).1
        obtain ⟨t, e⟩ := IntsAre.int_at nums i v (by rw [Array.getElem?_toList]; exact hv)
        exact ⟨ns[i], t, List.getElem?_eq_getElem lt, by rw [e, List.getD_eq_getElem?_getD, List.getElem?_eq_getElem lt]; rfl⟩
      refine set_update_ints ((Walks.list quiet3 _ l ne1 us).toS) s.heap.objs.size out1 ns sz small each (us.size - 0) 0 _ (by omega) (Nat.zero_le _) ⟨⟨_, Heap.get?_push_size _ rfl, rfl, rfl⟩, still.push _⟩ ?first ?last
      case first => exact ⟨0, Nat.le_refl 0, setR_new_at (show ((s.heap.push (eSet w)).push _).get? s.heap.objs.size = some (eSet w) from Heap.get?_push_of_some _ fresh)⟩
      case last =>
        intro s3 c mv le full
        obtain ⟨hp, gs, dr, tk, os⟩ := s3
        obtain rfl : gs = s.gens := mv.gens
        obtain rfl : dr = s.drawn := mv.drawn
        obtain rfl : os = s.os := mv.os
        show wpAny _ _ _ _ _ _
        refine wpAny_pure ?_
        show wpAny _ _ (ret Value.none) _ _ _
        rw [sz] at le
        refine wpAny_pure ⟨rfl, hp, tk, c, rfl, full, le, fun b o e => ?_⟩
        have lt := Heap.lt_size e
        exact mv.heap b o (by rw [Heap.size_push]; simp only [List.mem_cons, List.not_mem_nil, or_false, not_or]; exact ⟨Nat.ne_of_lt lt, Nat.ne_of_lt (Nat.lt_succ_of_lt lt)⟩) (Heap.get?_push_of_some _ (Heap.get?_push_of_some _ e))
    · match r2, got2 with
      | .error e, got2 => exact got2
      | .ok (.ret x), got2 =>
        obtain ⟨rfl, hp, tk, c, rfl, full, le, old⟩ := got2
        repeat (any_goals (first | assumption | wp_step))
        exact post _ _ _ full le old
      | .ok .next, got2 | .ok .brk, got2 | .ok .cont, got2 => exact got2.elim
  | .ok .next, got | .ok .brk, got | .ok .cont, got => exact got.elim
end
end G3
/-! G3: tuples from behind, list(range(..)) -/
namespace G3
open PySem PySem.Spec PyProof.Rows L2 HT
section
variable {prog : Program} {w : World} {A : Around} {E : Value → Shared → Prop} {s : Shared}
theorem slice_down {sl : Addr} {vl vu vs : Value} {lo hi : Option Int} {n : Nat} {Q : Int × Int × Nat → Shared → Prop} (hs : s.heap.IsSliceOf sl vl vu vs) (pl : IsPart vl lo) (pu : IsPart vu hi) (ps : IsPart vs (some (-1)))
    (h : Q ((Builtin.Slice.sliceAdjust lo hi (-1) n).1, -1, Builtin.Slice.slicePlaces (Builtin.Slice.sliceAdjust lo hi (-1) n).1 (Builtin.Slice.sliceAdjust lo hi (-1) n).2 (-1)) s) : wpAny (model prog w) A (Builtin.Slice.sliceApplied (.ref sl) (pure (n : Int))) Q E s := by
  obtain ⟨os, hos, hcs, hds⟩ := id hs
  unfold Builtin.Slice.sliceApplied Builtin.Slice.sliceFields
  refine wpAny_bind (wpAny_bind (wpAny_field hos hds (x := vl) rfl (wpAny_bind (wpAny_field hos hds (x := vu) rfl (wpAny_bind (wpAny_field hos hds (x := vs) rfl (wpAny_pure ?_)))))))
  refine wpAny_bind (slicePart_ ps ?_)
  show wpAny _ _ (if ((-1 : Int) == 0) = true then _ else _) _ _ s
  rw [if_neg (by decide)]
  exact wpAny_bind (slicePart_ pl (wpAny_bind (slicePart_ pu (wpAny_bind (wpAny_pure (wpAny_pure h))))))
theorem getItem_tuple_down {t sl : Addr} {items : Array Value} {vl vu vs : Value} {lo hi : Option Int} {ys : List Value} {Q : Value → Shared → Prop} (ht : IsTup s.heap t items) (hs : s.heap.IsSliceOf sl vl vu vs) (pl : IsPart vl lo) (pu : IsPart vu hi) (ps : IsPart vs (some (-1)))
    (hy : ((List.range (Builtin.Slice.slicePlaces (Builtin.Slice.sliceAdjust lo hi (-1) (items.size : Nat)).1 (Builtin.Slice.sliceAdjust lo hi (-1) (items.size : Nat)).2 (-1))).filterMap fun (k : Nat) => items[((Builtin.Slice.sliceAdjust lo hi (-1) (items.size : Nat)).1 + (k : Int) * (-1)).toNat]?) = ys)
    (hz : ys.length ≤ sizeLine) (h : Q (.ref s.heap.objs.size) { s with heap := s.heap.push { cls := .type "tuple", data := .seq ys.toArray } }) : wpAny (model prog w) A (getItem (.ref t) (.ref sl)) Q E s := by
  have htake : sizeOk (.seq ys.toArray) := by
    show ys.toArray.size ≤ sizeLine
    rw [List.size_toArray]; exact hz
  obtain ⟨os, hos, hcs, hds⟩ := id hs
  have hTs : s.TypeIs (.ref sl) "slice" := ⟨os, hos, hcs⟩
  unfold getItem
  try with_reducible refine wpAny_holding ?_
  first | refine wpAny_bind (wpAny_pure ?_) | skip
  refine wpAny_bind (wpAny_sequenceKey ht.typeIs (by decide) ?_)
  refine wpAny_bind (wpAny_callSpecial?_slot (name := Str.ofString "__getitem__") ht.typeIs PyProof.Rows.slot_tuple_getitem
    (wpAny_call_entry PyProof.Rows.slot_tuple_getitem ht.typeIs entry_tuple_getitem ?_ (args_tuple_getitem _ _)))
  show wpAny _ _ (Builtin.Tuple.tupleItemsOf (.ref t) >>= _) _ _ s
  refine wpAny_bind (tupleItemsOf_ ht ?_)
  refine wpAny_bind (wpAny_typeOf hTs ?_)
  rw [if_pos (by decide)]
  refine wpAny_bind (slice_down hs pl pu ps ?_)
  have hno : ∀ (a : Int) (n m : Nat), ¬ ((a == 0 && (-1 : Int) == 1 && n == m) = true) := by
    intro a n m q
    rw [Bool.and_eq_true, Bool.and_eq_true] at q
    exact absurd q.1.2 (by decide)
  show wpAny _ _ (if ((Builtin.Slice.sliceAdjust lo hi (-1) (items.size : Nat)).1 == 0 && (-1 : Int) == 1 && Builtin.Slice.slicePlaces (Builtin.Slice.sliceAdjust lo hi (-1) (items.size : Nat)).1 (Builtin.Slice.sliceAdjust lo hi (-1) (items.size : Nat)).2 (-1) == items.size) = true then _ else _) _ _ s
  rw [if_neg (hno _ _ _), hy]
  first
    | exact wpAny_bind (m := Builtin.Tuple.tupleExact _) (wpAny_newObj_type (wpAny_pure ⟨_, rfl, wpAny_pure h⟩) htake)
    | exact wpAny_bind (m := Builtin.Tuple.tupleExact _) (wpAny_newObj_type (wpAny_bind (wpAny_pure (wpAny_pure ⟨_, rfl, wpAny_pure h⟩))) htake)
    | exact wpAny_bind (wpAny_bind (m := Builtin.Tuple.tupleExact _) (wpAny_newObj_type (wpAny_pure (wpAny_pure ⟨_, rfl, wpAny_pure h⟩)) htake))
    | exact wpAny_bind (wpAny_bind (m := Builtin.Tuple.tupleExact _) (wpAny_newObj_type (wpAny_pure ⟨_, rfl, wpAny_pure h⟩) htake))
end
theorem fm_congr {α β : Type} {f g : α → Option β} : ∀ {l : List α}, (∀ x ∈ l, f x = g x) → l.filterMap f = l.filterMap g
  | [], _ => rfl
  | x :: l, h => by
    rw [List.filterMap_cons, List.filterMap_cons, h x List.mem_cons_self, fm_congr fun y hy => h y (List.mem_cons_of_mem _ hy)]
theorem down_all (its : List Value) : ((List.range (Builtin.Slice.slicePlaces (Builtin.Slice.sliceAdjust none none (-1) (its.toArray.size : Nat)).1 (Builtin.Slice.sliceAdjust none none (-1) (its.toArray.size : Nat)).2 (-1))).filterMap fun (k : Nat) => its.toArray[((Builtin.Slice.sliceAdjust none none (-1) (its.toArray.size : Nat)).1 + (k : Int) * (-1)).toNat]?) = its.reverse := by
  have e1 : (Builtin.Slice.sliceAdjust none none (-1) (its.toArray.size : Nat)) = ((its.length : Int) - 1, -1) := by
    unfold Builtin.Slice.sliceAdjust; simp
  rw [e1]
  have e2 : Builtin.Slice.slicePlaces ((its.length : Int) - 1) (-1) (-1) = its.length := by
    unfold Builtin.Slice.slicePlaces
    rw [if_neg (by decide)]
    split
    · have : ((its.length : Int) - 1 - -1 - 1) / (- -1) = (its.length : Int) - 1 := by
        rw [show (- -1 : Int) = 1 by decide, Int.ediv_one]; omega
      rw [this]; omega
    · omega
  show (List.range (Builtin.Slice.slicePlaces ((its.length : Int) - 1) (-1) (-1))).filterMap _ = _
  rw [e2]
  have e3 : (List.range its.length).filterMap (fun (k : Nat) => its.toArray[(((its.length : Int) - 1, (-1 : Int)).1 + (k : Int) * (-1)).toNat]?) = (List.range its.length).filterMap (fun k => its.reverse[k]?) := by
    refine fm_congr fun k hk => ?_
    have hk := List.mem_range.mp hk
    rw [List.getElem?_reverse (by omega), List.getElem?_toArray]
    congr 1
    show ((its.length : Int) - 1 + (k : Int) * (-1)).toNat = _
    omega
  rw [e3]
  have := PySem.W.krv_all its.reverse.toArray
  simpa using this
theorem down_20 (a b c d : Value) : ((List.range (Builtin.Slice.slicePlaces (Builtin.Slice.sliceAdjust (some 2) (some 0) (-1) ([a, b, c, d].toArray.size : Nat)).1 (Builtin.Slice.sliceAdjust (some 2) (some 0) (-1) ([a, b, c, d].toArray.size : Nat)).2 (-1))).filterMap fun (k : Nat) => [a, b, c, d].toArray[((Builtin.Slice.sliceAdjust (some 2) (some 0) (-1) ([a, b, c, d].toArray.size : Nat)).1 + (k : Int) * (-1)).toNat]?) = [c, b] := rfl
def rRevT (K : PySem.W.Frag) : V → Hp → VK → Prop := fun x H Q => ∃ a xs, x = .ref a ∧ SqT K H a xs ∧ ∀ p, H p = none → Q (.ref p) (upd H p (.tup xs.reverse))
def rRow2 (K : PySem.W.Frag) : V → Hp → VK → Prop := fun x H Q => ∃ a v0 v1 v2 v3, x = .ref a ∧ SqT K H a [v0, v1, v2, v3] ∧ ∀ p, H p = none → Q (.ref p) (upd H p (.tup [v2, v1]))
section
variable {X : Cx}
theorem pe_revT {e : Expr} {te : TE} {k : Nat} {p1 p2 p3 pos : Pos} (he : PE X e te) : PE X (.Subscript e (.Slice none none (some (.UnaryOp .USub (.Constant (.int 1) k p1) p2)) p3) pos) (tUn (rRevT X.K) te) := by
  refine ⟨fun pins s σ H Q I h => ?_⟩
  refine Subscript_ (thn (he.run pins s σ H _ I h) fun v s1 ⟨x, H1, I1, r1, q1⟩ => ?_)
  obtain ⟨a, xs, ex, hx, q⟩ := q1
  subst ex
  cases r1
  have hst : PO X (some (.UnaryOp .USub (.Constant (.int 1) k p1) p2)) (tPart (tUn (rU fun i => .int (-i)) (tC (.int 1)))) := po_some (pe_un un_neg pe_int)
  refine wpAny_Slice (thn (po_none.run pins s1 σ H1 (fun o H2 => o = none ∧ H2 = H1) I1 ⟨rfl, rfl⟩) fun vl s2 ⟨l, H2, I2, pl, el, e2⟩ => ?_)
  subst el e2
  refine thn (po_none.run pins s2 σ H2 (fun o H3 => o = none ∧ H3 = H2) I2 ⟨rfl, rfl⟩) fun vu s3 ⟨u, H3, I3, pu, eu, e3⟩ => ?_
  subst eu e3
  refine thn (hst.run pins s3 σ H3 (fun o H4 => o = some (-1) ∧ H4 = H3) I3 ⟨1, rfl, -1, rfl, rfl, rfl⟩) fun vs s4 ⟨o, H4, I4, ps, eo, e4⟩ => ?_
  subst eo e4
  have I5 : Inv X pins σ H4 { s4 with heap := s4.heap.push { cls := .type "slice", data := .fields #[vl, vu, vs] } } := I4.kept (t' := s4.toks) fun b ob q => Heap.get?_push_of_some _ q
  obtain ⟨its, r, ht, hz⟩ := I5.tuple hx
  have hlen := r.length
  show wpAny (model X.prog X.w) X.A (subscriptTail e (.Slice none none (some (.UnaryOp .USub (.Constant (.int 1) k p1) p2)) p3) (.ref a) (.ref s4.heap.objs.size)) (EP X pins σ Q) X.xe { s4 with heap := s4.heap.push { cls := .type "slice", data := .fields #[vl, vu, vs] } }
  refine tail_any (ops := [.ref a, .ref s4.heap.objs.size]) ht.typeIs (PyProof.Rows.slot_tuple_getitem.lookup) ?_ (by with_unfolding_all rfl)
  refine getItem_tuple_down ht (Heap.IsSliceOf.new _ vl vu vs) pl pu ps (down_all its) (by rw [List.length_reverse]; omega) ?_
  refine ⟨.ref _, _, I5.laid (t' := s4.toks) (o := .tup xs.reverse) (fun b ob q => Heap.get?_push_of_some _ q) (Nat.le_refl _) ?_, rfl, q _ (I5.hok.fresh (Nat.le_refl _))⟩
  exact ⟨by rw [List.length_reverse]; exact hz, _, r.reverse, IsTup.new _ _⟩
theorem pe_row2 {e : Expr} {te : TE} {k k1 k2 : Nat} {p1 p2 p3 p4 p5 pos : Pos} (he : PE X e te) : PE X (.Subscript e (.Slice (some (.Constant (.int 2) k1 p4)) (some (.Constant (.int 0) k2 p5)) (some (.UnaryOp .USub (.Constant (.int 1) k p1) p2)) p3) pos) (tUn (rRow2 X.K) te) := by
  refine ⟨fun pins s σ H Q I h => ?_⟩
  refine Subscript_ (thn (he.run pins s σ H _ I h) fun v s1 ⟨x, H1, I1, r1, q1⟩ => ?_)
  obtain ⟨a, v0, v1, v2, v3, ex, hx, q⟩ := q1
  subst ex
  cases r1
  have hst : PO X (some (.UnaryOp .USub (.Constant (.int 1) k p1) p2)) (tPart (tUn (rU fun i => .int (-i)) (tC (.int 1)))) := po_some (pe_un un_neg pe_int)
  have hlo : PO X (some (.Constant (.int 2) k1 p4)) (tPart (tC (.int 2))) := po_some pe_int
  have hhi : PO X (some (.Constant (.int 0) k2 p5)) (tPart (tC (.int 0))) := po_some pe_int
  refine wpAny_Slice (thn (hlo.run pins s1 σ H1 (fun o H2 => o = some 2 ∧ H2 = H1) I1 ⟨2, rfl, rfl, rfl⟩) fun vl s2 ⟨l, H2, I2, pl, el, e2⟩ => ?_)
  subst el e2
  refine thn (hhi.run pins s2 σ H2 (fun o H3 => o = some 0 ∧ H3 = H2) I2 ⟨0, rfl, rfl, rfl⟩) fun vu s3 ⟨u, H3, I3, pu, eu, e3⟩ => ?_
  subst eu e3
  refine thn (hst.run pins s3 σ H3 (fun o H4 => o = some (-1) ∧ H4 = H3) I3 ⟨1, rfl, -1, rfl, rfl, rfl⟩) fun vs s4 ⟨o, H4, I4, ps, eo, e4⟩ => ?_
  subst eo e4
  have I5 : Inv X pins σ H4 { s4 with heap := s4.heap.push { cls := .type "slice", data := .fields #[vl, vu, vs] } } := I4.kept (t' := s4.toks) fun b ob q => Heap.get?_push_of_some _ q
  obtain ⟨its, r, ht, hz⟩ := I5.tuple hx
  obtain ⟨w0, w1, w2, w3, rfl, r1, r2⟩ : ∃ w0 w1 w2 w3, its = [w0, w1, w2, w3] ∧ RelV v1 w1 ∧ RelV v2 w2 := by
    cases r with
    | cons a0 r => cases r with
      | cons a1 r => cases r with
        | cons a2 r => cases r with
          | cons a3 r => cases r with
            | nil => exact ⟨_, _, _, _, rfl, a1, a2⟩
  show wpAny (model X.prog X.w) X.A (subscriptTail e (.Slice (some (.Constant (.int 2) k1 p4)) (some (.Constant (.int 0) k2 p5)) (some (.UnaryOp .USub (.Constant (.int 1) k p1) p2)) p3) (.ref a) (.ref s4.heap.objs.size)) (EP X pins σ Q) X.xe { s4 with heap := s4.heap.push { cls := .type "slice", data := .fields #[vl, vu, vs] } }
  refine tail_any (ops := [.ref a, .ref s4.heap.objs.size]) ht.typeIs (PyProof.Rows.slot_tuple_getitem.lookup) ?_ (by with_unfolding_all rfl)
  refine getItem_tuple_down ht (Heap.IsSliceOf.new _ vl vu vs) pl pu ps (down_20 w0 w1 w2 w3) (by simp [sizeLine]) ?_
  refine ⟨.ref _, _, I5.laid (t' := s4.toks) (o := .tup [v2, v1]) (fun b ob q => Heap.get?_push_of_some _ q) (Nat.le_refl _) ?_, rfl, q _ (I5.hok.fresh (Nat.le_refl _))⟩
  exact ⟨by simp [sizeLine], _, .cons r2 (.cons r1 .nil), IsTup.new _ _⟩
end
/-! ### list(range(..)) -/
section
variable {X : Cx}
/-- what a range is made of, by its arguments -/
def tRgA (ta : TA) : L2.St → Hp → (Int → Int → Hp → Prop) → Prop := fun σ H Q => ta σ H fun vs H1 => (∃ n, vs = [.int n] ∧ Q 0 n H1) ∨ ∃ i j, vs = [.int i, .int j] ∧ Q i j H1
theorem prg_1A {a : Expr} {ta : TA} {p pos : Pos} (hg : Gl X "range") (hm : X.mg "range" = none) (ha : PA X [a] ta) (hs : starEach [a] X.env = [(false, eval a X.env)] := by rfl) : PRg X (.Call (.Name "range" p) [a] [] pos) (tRgA ta) := by
  intro pins s σ H Q I h
  refine Call_ (ld_blt I hg hm boot_range (PyProof.Rows.callWith_type1 (thn (ha.run pos pins s σ H _ I h) fun us s1 ⟨vs, H1, I1, r1, q1⟩ => ?_) hs rfl))
  rcases q1 with ⟨n, rfl, q⟩ | ⟨i, j, rfl, q⟩
  · cases r1 with
    | cons r rr =>
      cases rr
      obtain ⟨t, rfl⟩ := r
      exact call_range_1 ⟨_, 0, n, _, _, _, H1, rfl, IsRange.new _ _ _ _ _ _ _, I1.kept fun b u e => Heap.get?_push_of_some _ e, q⟩
  · cases r1 with
    | cons r rr =>
      cases rr with
      | cons r' rr =>
        cases rr
        obtain ⟨t, rfl⟩ := r
        obtain ⟨t', rfl⟩ := r'
        exact call_range_2 ⟨_, i, j, _, _, _, H1, rfl, IsRange.new _ _ _ _ _ _ _, I1.kept fun b u e => Heap.get?_push_of_some _ e, q⟩
theorem prg_2A {a b : Expr} {ta : TA} {p pos : Pos} (hg : Gl X "range") (hm : X.mg "range" = none) (ha : PA X [a, b] ta) (hs : starEach [a, b] X.env = [(false, eval a X.env), (false, eval b X.env)] := by rfl) (hs2 : starEach [b] X.env = [(false, eval b X.env)] := by rfl) :
    PRg X (.Call (.Name "range" p) [a, b] [] pos) (tRgA ta) := by
  intro pins s σ H Q I h
  refine Call_ (ld_blt I hg hm boot_range (PyProof.Rows.callWith_type1 (thn (ha.run pos pins s σ H _ I h) fun us s1 ⟨vs, H1, I1, r1, q1⟩ => ?_) (by rw [hs, hs2]) (by rw [hs2]; rfl)))
  rcases q1 with ⟨n, rfl, q⟩ | ⟨i, j, rfl, q⟩
  · cases r1 with
    | cons r rr =>
      cases rr
      obtain ⟨t, rfl⟩ := r
      exact call_range_1 ⟨_, 0, n, _, _, _, H1, rfl, IsRange.new _ _ _ _ _ _ _, I1.kept fun b u e => Heap.get?_push_of_some _ e, q⟩
  · cases r1 with
    | cons r rr =>
      cases rr with
      | cons r' rr =>
        cases rr
        obtain ⟨t, rfl⟩ := r
        obtain ⟨t', rfl⟩ := r'
        exact call_range_2 ⟨_, i, j, _, _, _, H1, rfl, IsRange.new _ _ _ _ _ _ _, I1.kept fun b u e => Heap.get?_push_of_some _ e, q⟩
/-- over data: the ints from i up to j -/
def fLRng : List D → GH → QK → Prop := fun ds g Q => match ds with
  | [.int j] => RgOk 0 j ∧ Q (.tl (rngD 0 j.toNat)) g
  | [.int i, .int j] => RgOk i j ∧ Q (.tl (rngD i (j - i).toNat)) g
  | _ => False
theorem reps_rng {K : PySem.W.Frag} {H : Hp} {g : GH} (i : Int) (n : Nat) : Reps K H g ((List.range n).map fun m => V.int (i + (m : Nat))) (rngD i n) := by
  unfold rngD
  generalize List.range n = l
  induction l with
  | nil => exact .nil
  | cons m l ih => exact .cons (.int _) ih
theorem q_lrng {e : Expr} {tr : TAD} {E : L2.St → XK} (h : PE X e (tLstRg (tRgA (LA X.K E tr)))) : PE X e (LE X.K E (wArgs tr fLRng)) := by
  refine PE.of h fun σ H Q ⟨B, ρ, g, Q0, W0, rs, rg, t, c, xc⟩ => ?_
  refine ⟨B, ρ, g, _, W0, rs, rg, t, fun ds g1 vs H1 hq rd rg1 f1 => ?_, xc⟩
  unfold fLRng at hq
  dsimp only at hq
  split at hq
  · cases rd with
    | cons r1 r2 =>
      cases r2
      exact .inl ⟨_, by rw [int_of r1], hq.1, fun p hp => by
        have := (c.after f1).newL hq.2 (reps_rng 0 _) rg1 p hp
        simpa [rgV] using this⟩
  · cases rd with
    | cons r1 r2 =>
      cases r2 with
      | cons r2 r3 =>
        cases r3
        exact .inr ⟨_, _, by rw [int_of r1, int_of r2], hq.1, fun p hp => (c.after f1).newL hq.2 (reps_rng _ _) rg1 p hp⟩
  · exact hq.elim
/-- tuple(range(..)) -/
def fTRng : List D → GH → QK → Prop := fun ds g Q => match ds with
  | [.int j] => RgOk 0 j ∧ Q (.v (.tup (rngD 0 j.toNat))) g
  | [.int i, .int j] => RgOk i j ∧ Q (.v (.tup (rngD i (j - i).toNat))) g
  | _ => False
theorem q_trng {e : Expr} {tr : TAD} {E : L2.St → XK} (h : PE X e (tTupRg (tRgA (LA X.K E tr)))) : PE X e (LE X.K E (wArgs tr fTRng)) := by
  refine PE.of h fun σ H Q ⟨B, ρ, g, Q0, W0, rs, rg, t, c, xc⟩ => ?_
  refine ⟨B, ρ, g, _, W0, rs, rg, t, fun ds g1 vs H1 hq rd rg1 f1 => ?_, xc⟩
  unfold fTRng at hq
  dsimp only at hq
  split at hq
  · cases rd with
    | cons r1 r2 =>
      cases r2
      exact .inl ⟨_, by rw [int_of r1], hq.1, fun p hp => by
        have := (c.after f1).newT hq.2 (reps_rng 0 _) rg1 p hp
        simpa [rgV] using this⟩
  · cases rd with
    | cons r1 r2 =>
      cases r2 with
      | cons r2 r3 =>
        cases r3
        exact .inr ⟨_, _, by rw [int_of r1, int_of r2], hq.1, fun p hp => (c.after f1).newT hq.2 (reps_rng _ _) rg1 p hp⟩
  · exact hq.elim
end
end G3
namespace G3
open PySem PySem.Spec PyProof.Rows L2
/-! ### the readings -/
def dist : List Int → List Int
  | [] => []
  | x :: xs => if xs.contains x then dist xs else x :: dist xs
def usort (ns : List Int) : List Int := isort (dist ns)
theorem dist_mem : ∀ {ns : List Int} {k : Int}, k ∈ dist ns ↔ k ∈ ns
  | [], _ => Iff.rfl
  | x :: xs, k => by
    unfold dist
    split
    · rename_i h
      rw [dist_mem, List.mem_cons]
      have h2 : x ∈ xs := List.contains_iff_mem.mp h
      exact ⟨.inr, fun e => e.elim (fun e => e ▸ h2) id⟩
    · rw [List.mem_cons, List.mem_cons, dist_mem]
theorem dist_nodup : ∀ (ns : List Int), (dist ns).Nodup
  | [] => List.nodup_nil
  | x :: xs => by
    unfold dist
    split
    · exact dist_nodup xs
    · rename_i h
      exact List.nodup_cons.mpr ⟨fun m => h (List.contains_iff_mem.mpr (dist_mem.mp m)), dist_nodup xs⟩
theorem dist_len : ∀ ns : List Int, (dist ns).length ≤ ns.length
  | [] => Nat.le_refl _
  | x :: xs => by
    have := dist_len xs
    unfold dist
    split
    · simp only [List.length_cons]; omega
    · simp only [List.length_cons]; omega
theorem usort_len (ns : List Int) : (isort (dist ns)).length ≤ ns.length := by rw [(isort_perm _).length_eq]; exact dist_len ns
theorem usort_mem {ns : List Int} {k : Int} : k ∈ usort ns ↔ k ∈ ns := (isort_perm _).mem_iff.trans dist_mem
theorem usort_lt (ns : List Int) : (usort ns).Pairwise (· < ·) := lt_of_le_nodup _ (isort_sorted _) ((isort_perm _).nodup_iff.mpr (dist_nodup ns))
theorem lt_uniq : ∀ {xs ys : List Int}, xs.Pairwise (· < ·) → ys.Pairwise (· < ·) → (∀ k, k ∈ xs ↔ k ∈ ys) → xs = ys
  | [], [], _, _, _ => rfl
  | [], y :: ys, _, _, h => absurd ((h y).mpr List.mem_cons_self) (by simp)
  | x :: xs, [], _, _, h => absurd ((h x).mp List.mem_cons_self) (by simp)
  | x :: xs, y :: ys, hx, hy, h => by
    obtain ⟨a1, a2⟩ := List.pairwise_cons.mp hx
    obtain ⟨b1, b2⟩ := List.pairwise_cons.mp hy
    have e : x = y := by
      rcases List.mem_cons.mp ((h x).mp List.mem_cons_self) with e | e
      · exact e
      · rcases List.mem_cons.mp ((h y).mpr List.mem_cons_self) with e' | e'
        · exact e'.symm
        · have := b1 _ e; have := a1 _ e'; omega
    subst e
    rw [lt_uniq a2 b2 fun k => ?_]
    have hk := h k
    simp only [List.mem_cons] at hk
    constructor
    · intro m
      rcases hk.mp (.inr m) with e | e
      · have := a1 _ m; omega
      · exact e
    · intro m
      rcases hk.mpr (.inr m) with e | e
      · have := b1 _ m; omega
      · exact e
theorem szl' : sizeLine = 16777216 := rfl
/-- sorted(set(x)) -/
def rSSet (K : PySem.W.Frag) : V → Hp → VK → Prop := fun x H1 Q => ∃ (l : Addr) (ns : List Int), x = .ref l ∧ (SqL K H1 l (ns.map V.int) ∨ SqT K H1 l (ns.map V.int)) ∧ ns.length ≤ 4000 ∧ (usort ns).length < 64 ∧ ∀ p, H1 p = none → Q (.ref p) (upd H1 p (.lst ((usort ns).map V.int)))
theorem setR_cong {w : World} {h : Heap} {a : Addr} {S T : Int → Bool} {n m : Nat} (r : SetR w h a S n) (t : SetR w h a T m) (e : ∀ k, S k = T k) : n = m := by
  obtain ⟨o, es, ep, t1, ho, _, hd, _, nd, hm, _, _, hn, _⟩ := r
  obtain ⟨o', es', ep', t1', ho', _, hd', _, nd', hm', _, _, hn', _⟩ := t
  rw [ho] at ho'; cases ho'
  rw [hd] at hd'; cases hd'
  rw [← hn, ← hn']
theorem setR_count {w : World} {h : Heap} {a : Addr} {ns : List Int} {c : Nat} (r : SetR w h a (fun j => decide (j ∈ ns)) c) : c = (usort ns).length := by
  obtain ⟨o, es, ep, t1, ho, _, hd, g, nd, hm, _, _, hn, _⟩ := r
  have p : (es.toList.map keyOf).Perm (usort ns) := by
    refine (List.perm_ext_iff_of_nodup nd ((isort_perm _).nodup_iff.mpr (dist_nodup ns))).mpr fun k => ?_
    have := hm k
    have u := usort_mem (ns := ns) (k := k)
    unfold usort at u
    rw [u]
    simpa using this.symm
  rw [← p.length_eq, List.length_map, Array.length_toList]
  exact hn.symm
theorem pe_sset {X : Cx} {a : Expr} {ta : TE} {p p2 q pos : Pos} (hg : Gl X "sorted") (hm : X.mg "sorted" = none) (hg2 : Gl X "set") (hm2 : X.mg "set" = none) (ha : PE X a ta) (hc : X.calm = true := by rfl)
    (na : starEach [a] X.env = (false, eval a X.env) :: starEach [] X.env := by rfl) : PE X (.Call (.Name "sorted" p) [.Call (.Name "set" p2) [a] [] q] [] pos) (tUn (rSSet X.K) ta) := by
  refine ⟨fun pins s σ H Q I h => ?_⟩
  refine Call_ (ld_blt I hg hm boot_sorted (callWith_builtin1 (args_cons ?_ rfl) rfl rfl))
  refine Call_ (ld_blt I hg2 hm2 boot_set (callWith_type1 (args_cons (thn (ha.run pins s σ H _ I h) fun v s1 ⟨x, H1, I1, r1, q1⟩ => args_nil ?_) na) na rfl))
  obtain ⟨l, ns, rfl, hq, hz, h64, q1⟩ := q1
  cases r1
  have post : ∀ (hp : Heap) (tk c : Nat), SetR X.w hp s1.heap.objs.size (fun j => decide (j ∈ ns)) c → c ≤ ns.length → (∀ b o, s1.heap.get? b = some o → hp.get? b = some o) →
      wpAny (model X.prog X.w) X.A (spliced (backTo pos (starEach [] X.env))) (fun vs s₂ => wpAny (model X.prog X.w) X.A (call (Value.builtin "sorted") (.ref s1.heap.objs.size :: vs)) (EP X pins σ Q) X.xe s₂) X.xe { s1 with heap := hp, toks := tk } := fun hp tk c R _ k1 => by
    refine args_nil ?_
    have hcn := setR_count R
    have I2 : Inv X pins σ H1 { s1 with heap := hp, toks := tk } := I1.kept k1
    refine sorted_set (s := { s1 with heap := hp, toks := tk }) R (I1.ok.hd hc) (by rw [hcn]; exact h64) fun s' p out c2 ks k2 gs os hp2 at_p nums up mem len => ?_
    have e : ks = usort ns := lt_uniq up (usort_lt ns) fun k => by rw [mem k, usort_mem]; simp
    subst e
    have free : H1 p = none := I2.hok.fresh hp2
    have J : Inv X pins σ (upd H1 p (.lst ((usort ns).map V.int))) { s1 with heap := s'.heap, gens := s'.gens, drawn := s'.drawn, toks := s'.toks } :=
      Inv.call (s := { s1 with heap := hp, toks := tk }) (ch := []) I2 (Un.laid k2 hp2 free) (I2.hok.laid k2 hp2 ⟨by rw [List.length_map, szl']; omega, out.toList, c2, vals_of_ints nums, at_p⟩) (by rw [gs]; exact I2.bare) (fun _ z => nomatch z)
    obtain ⟨h3, g3, d3, t3, o3⟩ := s'
    obtain rfl : o3 = s1.os := os
    exact ⟨.ref p, _, J, rfl, q1 p free⟩
  rcases hq with hq | hq
  · obtain ⟨us, r, pl, _⟩ := I1.list hq
    exact set_of_list ns (I1.ok.hd hc) pl.isList (by simpa using RZ.intsAre_vals r) (by unfold scanBound; omega) post
  · obtain ⟨us, r, tl, _⟩ := I1.tuple hq
    exact call_set_tupI ns (I1.ok.hd hc) tl (by simpa using RZ.intsAre_vals r) (by unfold scanBound; omega) post
section
variable {P : Program} {w : World} {A : Around} {E : Value → Shared → Prop} {s : Shared} {a : Addr}
/-- sorted of a set of whole numbers, however many -/
theorem sorted_setA {S : Int → Bool} {n : Nat} {Q : Value → Shared → Prop} (R : SetR w s.heap a S n) (quiet : A.handled = none)
    (post : ∀ s' p (out : Array Value) (c : Nat) (ns : List Int), (∀ b o, s.heap.get? b = some o → s'.heap.get? b = some o) → s'.gens = s.gens → s'.os = s.os → s.heap.objs.size ≤ p →
      s'.heap.get? p = some (seqObj "list" out c) → IntsAre out.toList ns → ns.Pairwise (· < ·) → (∀ k, k ∈ ns ↔ S k = true) → Q (.ref p) s') : wpAny (model P w) A (call (.builtin "sorted") [.ref a]) Q E s := by
  obtain ⟨o, es, ep, t, ho, hex, hd, good, nd, mem, small, fit, _, ris, led⟩ := R
  refine Calls.call_function_entry kind_sorted plain_sorted entry_sorted (args_sorted1 _) ?_
  unfold Builtin.«sorted»
  refine wpAny_bind (m := checkCount "sorted" 1 1 _) (wpAny_pure ?_)
  refine wpAny_bind (collect_set (A := A.in1) quiet ⟨o, ho, hex.1, hd⟩ fit small ris led fun s1 vs keep sz gs os perm => ?_)
  have len : vs.length ≤ sizeLine := by rw [perm.length_eq, List.length_map, Array.length_toList]; exact fits_of_scanBound small
  have nums : IntsAre vs (vs.map Builtin.Re.reRawOf) := ints_of vs fun v hv => by
    obtain ⟨e, he, q⟩ := List.mem_map.mp (perm.mem_iff.mp hv)
    obtain ⟨k, tk, h1, _⟩ := good e he
    exact ⟨k, tk, by rw [← q]; exact h1⟩
  have pk : (vs.map Builtin.Re.reRawOf).Perm (es.toList.map keyOf) := by
    have q := perm.map Builtin.Re.reRawOf
    rw [List.map_map] at q
    exact q
  refine wpAny_bind (wpAny_newList ?_ len)
  have at_l : (s1.heap.push (seqObj "list" vs.toArray 0)).get? s1.heap.objs.size = some (seqObj "list" vs.toArray 0) := Heap.get?_push_size _ rfl
  refine wpAny_bind (wpAny_holding (wpAny_call_entry slot_list_sort ⟨_, at_l, rfl⟩ entry_list_sort (list_sort_treeAny at_l nums len fun out ns' a1 a2 a3 => ⟨_, rfl, ?_⟩) (args_list_sort _)))
  obtain ⟨c, hc⟩ := sortedHeap_at (vs := vs) (out := out) at_l
  have pn : ns'.Perm (es.toList.map keyOf) := a2.trans pk
  refine wpAny_pure ⟨_, rfl, post _ s1.heap.objs.size out c ns' (fun b u e => ?_) gs os sz hc a1 (lt_of_le_nodup ns' a3 (pn.nodup_iff.mpr nd)) fun k => by rw [pn.mem_iff, ← mem k]⟩
  have q := keep b u e
  have older := Heap.lt_size q
  show (sortedHeap (s1.heap.push (seqObj "list" vs.toArray 0)) s1.heap.objs.size vs out).get? b = some u
  rw [sortedHeap_old (Nat.ne_of_lt older) (by rw [size_push']; exact Nat.lt_succ_of_lt older)]
  exact Heap.get?_push_of_some _ q
end
def rSSetA (K : PySem.W.Frag) : V → Hp → VK → Prop := fun x H1 Q => ∃ (l : Addr) (ns : List Int), x = .ref l ∧ (SqL K H1 l (ns.map V.int) ∨ SqT K H1 l (ns.map V.int)) ∧ ns.length ≤ 4000 ∧ ∀ p, H1 p = none → Q (.ref p) (upd H1 p (.lst ((usort ns).map V.int)))
theorem pe_ssetA {X : Cx} {a : Expr} {ta : TE} {p p2 q pos : Pos} (hg : Gl X "sorted") (hm : X.mg "sorted" = none) (hg2 : Gl X "set") (hm2 : X.mg "set" = none) (ha : PE X a ta) (hc : X.calm = true := by rfl)
    (na : starEach [a] X.env = (false, eval a X.env) :: starEach [] X.env := by rfl) : PE X (.Call (.Name "sorted" p) [.Call (.Name "set" p2) [a] [] q] [] pos) (tUn (rSSetA X.K) ta) := by
  refine ⟨fun pins s σ H Q I h => ?_⟩
  refine Call_ (ld_blt I hg hm boot_sorted (callWith_builtin1 (args_cons ?_ rfl) rfl rfl))
  refine Call_ (ld_blt I hg2 hm2 boot_set (callWith_type1 (args_cons (thn (ha.run pins s σ H _ I h) fun v s1 ⟨x, H1, I1, r1, q1⟩ => args_nil ?_) na) na rfl))
  obtain ⟨l, ns, rfl, hq, hz, q1⟩ := q1
  cases r1
  have post : ∀ (hp : Heap) (tk c : Nat), SetR X.w hp s1.heap.objs.size (fun j => decide (j ∈ ns)) c → c ≤ ns.length → (∀ b o, s1.heap.get? b = some o → hp.get? b = some o) →
      wpAny (model X.prog X.w) X.A (spliced (backTo pos (starEach [] X.env))) (fun vs s₂ => wpAny (model X.prog X.w) X.A (call (Value.builtin "sorted") (.ref s1.heap.objs.size :: vs)) (EP X pins σ Q) X.xe s₂) X.xe { s1 with heap := hp, toks := tk } := fun hp tk c R _ k1 => by
    refine args_nil ?_
    have hcn := setR_count R
    have I2 : Inv X pins σ H1 { s1 with heap := hp, toks := tk } := I1.kept k1
    refine sorted_setA (s := { s1 with heap := hp, toks := tk }) R (I1.ok.hd hc) fun s' p out c2 ks k2 gs os hp2 at_p nums up mem => ?_
    have e : ks = usort ns := lt_uniq up (usort_lt ns) fun k => by rw [mem k, usort_mem]; simp
    subst e
    have free : H1 p = none := I2.hok.fresh hp2
    have J : Inv X pins σ (upd H1 p (.lst ((usort ns).map V.int))) { s1 with heap := s'.heap, gens := s'.gens, drawn := s'.drawn, toks := s'.toks } :=
      Inv.call (s := { s1 with heap := hp, toks := tk }) (ch := []) I2 (Un.laid k2 hp2 free) (I2.hok.laid k2 hp2 ⟨by rw [List.length_map, szl']; have := usort_len ns; unfold usort; omega, out.toList, c2, vals_of_ints nums, at_p⟩) (by rw [gs]; exact I2.bare) (fun _ z => nomatch z)
    obtain ⟨h3, g3, d3, t3, o3⟩ := s'
    obtain rfl : o3 = s1.os := os
    exact ⟨.ref p, _, J, rfl, q1 p free⟩
  rcases hq with hq | hq
  · obtain ⟨us, r, pl, _⟩ := I1.list hq
    exact set_of_list ns (I1.ok.hd hc) pl.isList (by simpa using RZ.intsAre_vals r) (by unfold scanBound; omega) post
  · obtain ⟨us, r, tl, _⟩ := I1.tuple hq
    exact call_set_tupI ns (I1.ok.hd hc) tl (by simpa using RZ.intsAre_vals r) (by unfold scanBound; omega) post
def rLSet (K : PySem.W.Frag) : V → Hp → VK → Prop := fun x H1 Q => ∃ (l : Addr) (ns : List Int), x = .ref l ∧ (SqL K H1 l (ns.map V.int) ∨ SqT K H1 l (ns.map V.int)) ∧ ns.length ≤ 4000 ∧ Q (.int (usort ns).length) H1
theorem pe_lset {X : Cx} {a : Expr} {ta : TE} {p p2 q pos : Pos} (hg : Gl X "len") (hm : X.mg "len" = none) (hg2 : Gl X "set") (hm2 : X.mg "set" = none) (ha : PE X a ta) (hc : X.calm = true := by rfl)
    (na : starEach [a] X.env = (false, eval a X.env) :: starEach [] X.env := by rfl) : PE X (.Call (.Name "len" p) [.Call (.Name "set" p2) [a] [] q] [] pos) (tUn (rLSet X.K) ta) := by
  refine ⟨fun pins s σ H Q I h => ?_⟩
  refine Call_ (ld_blt I hg hm boot_len (callWith_builtin1 (args_cons ?_ rfl) rfl rfl))
  refine Call_ (ld_blt I hg2 hm2 boot_set (callWith_type1 (args_cons (thn (ha.run pins s σ H _ I h) fun v s1 ⟨x, H1, I1, r1, q1⟩ => args_nil ?_) na) na rfl))
  obtain ⟨l, ns, rfl, hq, hz, q1⟩ := q1
  cases r1
  have post : ∀ (hp : Heap) (tk c : Nat), SetR X.w hp s1.heap.objs.size (fun j => decide (j ∈ ns)) c → c ≤ ns.length → (∀ b o, s1.heap.get? b = some o → hp.get? b = some o) →
      wpAny (model X.prog X.w) X.A (spliced (backTo pos (starEach [] X.env))) (fun vs s₂ => wpAny (model X.prog X.w) X.A (call (Value.builtin "len") (.ref s1.heap.objs.size :: vs)) (EP X pins σ Q) X.xe s₂) X.xe { s1 with heap := hp, toks := tk } := fun hp tk c R hc1 k1 => by
    refine args_nil ?_
    have hcn := setR_count R
    have I2 : Inv X pins σ H1 { s1 with heap := hp, toks := tk } := I1.kept k1
    obtain ⟨o, es, ep, t, ho, hex, hd, _, _, _, _, hf, hn, _⟩ := R
    have sz : es.size = (usort ns).length := hn.trans hcn
    exact call_len_set (s := { s1 with heap := hp, toks := tk }) ho hex hd hf (by rw [hn] <;> omega) ⟨.int (usort ns).length, H1, I2.tok _, ⟨_, by rw [sz]⟩, q1⟩
  rcases hq with hq | hq
  · obtain ⟨us, r, pl, _⟩ := I1.list hq
    exact set_of_list ns (I1.ok.hd hc) pl.isList (by simpa using RZ.intsAre_vals r) (by unfold scanBound; omega) post
  · obtain ⟨us, r, tl, _⟩ := I1.tuple hq
    exact call_set_tupI ns (I1.ok.hd hc) tl (by simpa using RZ.intsAre_vals r) (by unfold scanBound; omega) post
/-! ### over data -/
def fSSet : R → GH → QK → Prop := fun x g Q => ∃ ns : List Int, (lstOf g x (ns.map .int) ∨ tupOf x (ns.map .int)) ∧ ns.length ≤ 4000 ∧ (usort ns).length < 64 ∧ Q (.tl ((usort ns).map .int)) g
def fSSetA : R → GH → QK → Prop := fun x g Q => ∃ ns : List Int, (lstOf g x (ns.map .int) ∨ tupOf x (ns.map .int)) ∧ ns.length ≤ 4000 ∧ Q (.tl ((usort ns).map .int)) g
def fLSet : R → GH → QK → Prop := fun x g Q => ∃ ns : List Int, (lstOf g x (ns.map .int) ∨ tupOf x (ns.map .int)) ∧ ns.length ≤ 4000 ∧ Q (.v (.int (usort ns).length)) g
theorem reps_ints {K : PySem.W.Frag} {H : Hp} {g : GH} : ∀ {ns : List Int} {vs : List V}, Reps K H g vs (ns.map .int) → vs = ns.map V.int
  | [], _, .nil => rfl
  | n :: ns, _, .cons r t => by rw [reps_ints t, int_of r]; rfl
theorem ints_arg {K : PySem.W.Frag} {B : List Addr} {H : Hp} {g : GH} {x : V} {d : R} {ns : List Int} (w : Vw K B H g) (rx : Rep K (hide H B) g x d.fz) (h : lstOf g d (ns.map .int) ∨ tupOf d (ns.map .int)) :
    ∃ l, x = .ref l ∧ (SqL K H l (ns.map V.int) ∨ SqT K H l (ns.map V.int)) := by
  rcases h with h | h
  · obtain ⟨a, vs, rfl, ha, r⟩ := h.rep w.rg rx
    obtain rfl := reps_ints r
    exact ⟨a, rfl, .inl (.inl (.inl (of_hide ha).1))⟩
  · obtain ⟨a, vs, rfl, ha, r⟩ := h.rep rx
    obtain rfl := reps_ints r
    exact ⟨a, rfl, .inr (sqT_un ha)⟩
theorem ok_sset {K : PySem.W.Frag} : R1Ok K fSSet (rSSet K) := fun x d B H g Q0 Q rx w ⟨ns, ha, hz, h64, q⟩ c => by
  obtain ⟨l, rfl, hl⟩ := ints_arg w rx ha
  refine ⟨l, ns, rfl, hl, hz, h64, fun p hp => ?_⟩
  exact c.newL q (Reps.ints (usort ns)) w p hp
theorem ok_ssetA {K : PySem.W.Frag} : R1Ok K fSSetA (rSSetA K) := fun x d B H g Q0 Q rx w ⟨ns, ha, hz, q⟩ c => by
  obtain ⟨l, rfl, hl⟩ := ints_arg w rx ha
  exact ⟨l, ns, rfl, hl, hz, fun p hp => c.newL q (Reps.ints (usort ns)) w p hp⟩
theorem ok_lset {K : PySem.W.Frag} : R1Ok K fLSet (rLSet K) := fun x d B H g Q0 Q rx w ⟨ns, ha, hz, q⟩ c => by
  obtain ⟨l, rfl, hl⟩ := ints_arg w rx ha
  exact ⟨l, ns, rfl, hl, hz, c.here q (.int _) w⟩

/-! ### len(set(x)), x a list of fewer than 64 tuples of ints -/
def rLSetT (K : PySem.W.Frag) : V → Hp → VK → Prop := fun x H Q => ∃ (l : Addr) (ks : List (Addr × List Int)), x = .ref l ∧ SqL K H l (ks.map fun p => V.ref p.1) ∧ (∀ p ∈ ks, SqT K H p.1 (p.2.map V.int)) ∧ ks.length < 64 ∧
  ∀ L : List (List Int), L.Nodup → (∀ c, c ∈ L ↔ c ∈ ks.map (·.2)) → Q (.int L.length) H
theorem pe_lsetT {X : Cx} {a : Expr} {ta : TE} {p p2 q pos : Pos} (hu : X.A.units + 65 < cLine) (hg : Gl X "len") (hm : X.mg "len" = none) (hg2 : Gl X "set") (hm2 : X.mg "set" = none) (ha : PE X a ta) (hc : X.calm = true := by rfl)
    (na : starEach [a] X.env = (false, eval a X.env) :: starEach [] X.env := by rfl) : PE X (.Call (.Name "len" p) [.Call (.Name "set" p2) [a] [] q] [] pos) (tUn (rLSetT X.K) ta) := by
  refine ⟨fun pins s σ H Q I h => ?_⟩
  refine Call_ (ld_blt I hg hm boot_len (callWith_builtin1 (args_cons ?_ rfl) rfl rfl))
  refine Call_ (ld_blt I hg2 hm2 boot_set (callWith_type1 (args_cons (thn (ha.run pins s σ H _ I h) fun v s1 ⟨x, H1, I1, r1, q1⟩ => args_nil ?_) na) na rfl))
  obtain ⟨l, ks, rfl, hl, hk, hz, q1⟩ := q1
  cases r1
  obtain ⟨its, rv, pl, _⟩ := I1.list hl
  refine call_set_tups (P := X.prog) (w := X.w) ks (I1.ok.hd hc) pl.isList (by simpa using refs_of_vals rv) (fun p hp => I1.isT (hk p hp)) hz (by omega) fun h' tk L es ep t R g k => ?_
  refine args_nil ?_
  have I2 : Inv X pins σ H1 { s1 with heap := h', toks := tk } := I1.kept k
  obtain ⟨o, ho, hex, hd⟩ := R.ob
  have sz : es.size = (L.map (·.2)).length := by rw [SetTR.size (s := { s1 with heap := h', toks := tk }) R, List.length_map]
  have few := R.few
  refine call_len_set (s := { s1 with heap := h', toks := tk }) ho hex hd (SetTR.fits (s := { s1 with heap := h', toks := tk }) R) (by rw [sz, List.length_map]; omega) ⟨.int (L.map (·.2)).length, H1, I2.tok _, ⟨_, by rw [sz]⟩, q1 _ R.nd fun c => ⟨fun m => ?_, fun m => ?_⟩⟩
  · obtain ⟨p, hp, rfl⟩ := List.mem_map.mp m
    exact List.mem_map.mpr ⟨p, List.mem_of_mem_take (g.sub p hp), rfl⟩
  · obtain ⟨p, hp, rfl⟩ := List.mem_map.mp m
    exact g.all p (by rw [List.take_length]; exact hp)
def fLSetT : R → GH → QK → Prop := fun x g Q => ∃ cs : List (List Int), lstOf g x (cs.map fun c => .tup (c.map .int)) ∧ cs.length < 64 ∧ ∀ L : List (List Int), L.Nodup → (∀ c, c ∈ L ↔ c ∈ cs) → Q (.v (.int L.length)) g
theorem tups_ref {K : PySem.W.Frag} {B : List Addr} {H : Hp} {g : GH} : ∀ {cs : List (List Int)} {vs : List V}, Reps K (hide H B) g vs (cs.map fun c => .tup (c.map .int)) → ∃ ks : List (Addr × List Int), vs = ks.map (fun p => V.ref p.1) ∧ ks.map (·.2) = cs ∧ ∀ p ∈ ks, SqT K H p.1 (p.2.map V.int)
  | [], _, .nil => ⟨[], rfl, rfl, by simp⟩
  | c :: cs, _, .cons r t => by
    obtain ⟨ks, rfl, e, hk⟩ := tups_ref t
    cases r with
    | @tup a us _ h r =>
      obtain rfl := reps_ints r
      exact ⟨(a, c) :: ks, rfl, by rw [List.map_cons, e], fun p m => (List.mem_cons.mp m).elim (fun z => by rw [z]; exact .inl (.inl (of_hide h).1)) (hk p)⟩
theorem ok_lsetT {K : PySem.W.Frag} : R1Ok K fLSetT (rLSetT K) := fun x d B H g Q0 Q rx w ⟨cs, ha, hz, q⟩ c => by
  obtain ⟨a, vs, rfl, h, r⟩ := ha.rep w.rg rx
  obtain ⟨ks, rfl, e, hk⟩ := tups_ref r
  exact ⟨a, ks, rfl, .inl (.inl (of_hide h).1), hk, by rw [← e, List.length_map] at hz; exact hz, fun L hn hL => c.here (q L hn fun z => by rw [hL z, e]) (.int _) w⟩
/-! ### forms of one thing -/
/-- xs[::-1] -/
def fRev : R → GH → QK → Prop := fun x g Q => ∃ xs, lstOf g x xs ∧ Q (.tl xs.reverse) g
def rRev1 (K : PySem.W.Frag) : V → Hp → VK → Prop := fun x H Q => ∃ a xs, x = .ref a ∧ SqL K H a xs ∧ ∀ p, H p = none → Q (.ref p) (upd H p (.lst xs.reverse))
theorem Reps.rev {K : PySem.W.Frag} {H : Hp} {g : GH} : ∀ {vs : List V} {ds : List D}, Reps K H g vs ds → Reps K H g vs.reverse ds.reverse
  | _, _, .nil => .nil
  | _, _, .cons r t => by
    rw [List.reverse_cons, List.reverse_cons]
    exact (Reps.rev t).append (.one r)
theorem ok_rev {K : PySem.W.Frag} : R1Ok K fRev (rRev1 K) := fun x d B H g Q0 Q rx w ⟨xs, ha, q⟩ c => by
  obtain ⟨a, vs, rfl, h, r⟩ := ha.rep w.rg rx
  exact ⟨a, vs, rfl, .inl (.inl (of_hide h).1), fun p hp => c.newL q r.rev w p hp⟩
/-- t[::-1] -/
def fRevT : R → GH → QK → Prop := fun x g Q => ∃ xs, tupOf x xs ∧ Q (.v (.tup xs.reverse)) g
theorem ok_revT {K : PySem.W.Frag} : R1Ok K fRevT (rRevT K) := fun x d B H g Q0 Q rx w ⟨xs, ha, q⟩ c => by
  obtain ⟨a, vs, rfl, h, r⟩ := ha.rep rx
  exact ⟨a, vs, rfl, sqT_un h, fun p hp => c.newT q r.rev w p hp⟩
/-- t[2:0:-1] of four -/
def fRow2 : R → GH → QK → Prop := fun x g Q => ∃ a b c d, tupOf x [a, b, c, d] ∧ Q (.v (.tup [c, b])) g
theorem ok_row2 {K : PySem.W.Frag} : R1Ok K fRow2 (rRow2 K) := fun x d B H g Q0 Q rx w ⟨d0, d1, d2, d3, ha, q⟩ c => by
  obtain ⟨a, vs, rfl, h, r⟩ := ha.rep rx
  cases r with
  | cons r0 r => cases r with
    | cons r1 r => cases r with
      | cons r2 r => cases r with
        | cons r3 r => cases r with
          | nil => exact ⟨a, _, _, _, _, rfl, sqT_un h, fun p hp => c.newT q (.cons r2 (.cons r1 .nil)) w p hp⟩
inductive Ufn | sset | lset | rev | revT | row2 | ssetA | lsetT
def Ufn.f : Ufn → R → GH → QK → Prop
  | .sset => fSSet
  | .ssetA => fSSetA
  | .lset => fLSet
  | .lsetT => fLSetT
  | .rev => fRev
  | .revT => fRevT
  | .row2 => fRow2
/-- what stands in the form's place -/
def argS : Expr → Option Expr
  | .Call (.Name x _) [.Call (.Name y _) [a] [] _] [] _ => if x = ("sorted" : Str) ∧ y = ("set" : Str) then some a else none
  | _ => none
def argN : Expr → Option Expr
  | .Call (.Name x _) [.Call (.Name y _) [a] [] _] [] _ => if x = ("len" : Str) ∧ y = ("set" : Str) then some a else none
  | _ => none
def argR : Expr → Option Expr
  | .Subscript e (.Slice none none (some (.UnaryOp .USub (.Constant (.int 1) _ _) _)) _) _ => some e
  | _ => none
def argR2 : Expr → Option Expr
  | .Subscript e (.Slice (some (.Constant (.int 2) _ _)) (some (.Constant (.int 0) _ _)) (some (.UnaryOp .USub (.Constant (.int 1) _ _) _)) _) _ => some e
  | _ => none
def Ufn.arg : Ufn → Expr → Option Expr
  | .sset => argS
  | .ssetA => argS
  | .lset => argN
  | .lsetT => argN
  | .rev => argR
  | .revT => argR
  | .row2 => argR2
def Ufn.names : Ufn → List Str
  | .sset => ["sorted", "set"]
  | .ssetA => ["sorted", "set"]
  | .lset => ["len", "set"]
  | .lsetT => ["len", "set"]
  | .rev => []
  | .revT => []
  | .row2 => []
theorem Ufn.ok (X : Cx) (hu : X.A.units + 65 < cLine) (f : Ufn) : ∃ r, R1Ok X.K f.f r ∧ ∀ {a y : Expr} {te : TE}, f.arg a = some y → (∀ n ∈ f.names, Gl X n ∧ X.mg n = none) → starEach [y] X.env = (false, eval y X.env) :: starEach [] X.env → X.calm = true → PE X y te → PE X a (tUn r te) := by
  cases f with
  | revT =>
    refine ⟨_, ok_revT, fun {a y te} e nm st hc h => ?_⟩
    change argR a = some y at e
    unfold argR at e
    split at e
    · cases e
      exact pe_revT h
    · cases e
  | row2 =>
    refine ⟨_, ok_row2, fun {a y te} e nm st hc h => ?_⟩
    change argR2 a = some y at e
    unfold argR2 at e
    split at e
    · cases e
      exact pe_row2 h
    · cases e
  | rev =>
    refine ⟨_, ok_rev, fun {a y te} e nm st hc h => ?_⟩
    change argR a = some y at e
    unfold argR at e
    split at e
    · cases e
      exact pe_revL h
    · cases e
  | sset =>
    refine ⟨_, ok_sset, fun {a y te} e nm st hc h => ?_⟩
    change argS a = some y at e
    unfold argS at e
    split at e
    · split at e
      · rename_i q
        cases e
        obtain ⟨rfl, rfl⟩ := q
        exact pe_sset (nm "sorted" (by decide)).1 (nm "sorted" (by decide)).2 (nm "set" (by decide)).1 (nm "set" (by decide)).2 h hc st
      · cases e
    · cases e
  | ssetA =>
    refine ⟨_, ok_ssetA, fun {a y te} e nm st hc h => ?_⟩
    change argS a = some y at e
    unfold argS at e
    split at e
    · split at e
      · rename_i q
        cases e
        obtain ⟨rfl, rfl⟩ := q
        exact pe_ssetA (nm "sorted" (by decide)).1 (nm "sorted" (by decide)).2 (nm "set" (by decide)).1 (nm "set" (by decide)).2 h hc st
      · cases e
    · cases e
  | lset =>
    refine ⟨_, ok_lset, fun {a y te} e nm st hc h => ?_⟩
    change argN a = some y at e
    unfold argN at e
    split at e
    · split at e
      · rename_i q
        cases e
        obtain ⟨rfl, rfl⟩ := q
        exact pe_lset (nm "len" (by decide)).1 (nm "len" (by decide)).2 (nm "set" (by decide)).1 (nm "set" (by decide)).2 h hc st
      · cases e
    · cases e
  | lsetT =>
    refine ⟨_, ok_lsetT, fun {a y te} e nm st hc h => ?_⟩
    change argN a = some y at e
    unfold argN at e
    split at e
    · split at e
      · rename_i q
        cases e
        obtain ⟨rfl, rfl⟩ := q
        exact pe_lsetT hu (nm "len" (by decide)).1 (nm "len" (by decide)).2 (nm "set" (by decide)).1 (nm "set" (by decide)).2 h hc st
      · cases e
    · cases e
end G3
/-! G3: the small syntax, its meaning, what checks it against the text -/
namespace G3
open PySem L2

mutual
inductive Xp where
  | var (i : Nat) | cst (d : D) | glb (x : Str) (d : D) | blt (x : Str) (n : String)
  | bin (op : Bop) (a b : Xp) | cmp (op : Cop) (a b : Xp) | cmp2 (o1 o2 : Cop) (a b c : Xp)
  | neg (a : Xp) | not (a : Xp) | and (a b : Xp) | or (a b : Xp) | ite (c a b : Xp)
  | idx (op : Iop) (a i : Xp) | slc (op : Sop) (a : Xp) (lo hi : Xo)
  | tup (es : Xl) | lst (es : Xl)
  | comp (own : List (Str × Nat)) (it : Xi) (tg : Tg) (c : Xo) (e : Xp)
  | call (x : Str) (sp : GSp) (es : Xl) | blf (f : Bfn) (es : Xl) | mth (m : Mth) (o : Xp) (es : Xl)
  | trk (a : Xp) | un (f : Ufn) (a : Xp) | lrng (es : Xl) | trng (es : Xl)
  | callv (tab : Tab) (o : Xp) (es : Xl)
  | mk (C : Str) (e : Xp) | mkAt (C : Str) (e : Xp) | atf (xs : List Str) (e : Xp)
  | dis (i : Nat) (b : Bool) | dnK | dnT
  | fld (C f : Str) (e : Xp) | mthd (C m : Str) (sp : GSp) (o : Xp) (es : Xl) | new (C : Str) (sp : GSp) (es : Xl) | clm (C m : Str) (sp : GSp) (es : Xl)
  | cmp3 (o1 o2 o3 : Cop) (a b c d : Xp)
  /-- e in x, x a written tuple of texts -/
  | ing (neg : Bool) (x : Str) (ws : List Str) (e : Xp)
inductive Xl where
  | nil | cons (e : Xp) (r : Xl)
inductive Xo where
  | no | so (e : Xp)
inductive Xi where
  | seqL (e : Xp) | seqT (e : Xp) | rng1 (a : Xl) | rng2 (a : Xl) | enumL (a : Xl) | enumT (a : Xl) | seqA (e : Xp) | enumA (a : Xl) | zip (a : Xl) | rngD (a : Xl) | revL (a : Xl) | text (e : Xp)
end
def wIng (neg : Bool) (ws : List Str) (ta : TD) : TD := fun ρ g Q W => ta ρ g (fun r g1 => match r with | .v (.str z) => Q (.v (.bl (neg ^^ ws.contains z))) g1 | _ => False) W
abbrev TOD := DEnv → GH → (Option Int → GH → Prop) → XKD → Prop
def wNoPart : TOD := fun _ g Q _ => Q none g
def wPart (t : TD) : TOD := fun ρ g Q W => t ρ g (fun r g1 => match r with | .v (.int i) => Q (some i) g1 | _ => False) W
def wSlc (op : Sop) (ta : TD) (tl th : TOD) : TD := fun ρ g Q W => ta ρ g (fun x g1 => tl ρ g1 (fun lo g2 => th ρ g2 (fun hi g3 => fSl op (.v x.fz) lo hi g3 Q) W) W) W
mutual
def wE : Xp → TD
  | .var i => wVar i
  | .cst d => wC d
  | .glb _ d => wC d
  | .blt _ n => wC (.ty n)
  | .bin op a b => wBin op.f (wE a) (wE b)
  | .cmp op a b => wBin op.f (wE a) (wE b)
  | .cmp2 o1 o2 a b c => wCh o1.f o2.f (wE a) (wE b) (wE c)
  | .neg a => wUn fNeg (wE a)
  | .not a => wNot (wE a)
  | .and a b => wAnd (wE a) (wE b)
  | .or a b => wOr (wE a) (wE b)
  | .ite c a b => wIte (wE c) (wE a) (wE b)
  | .idx op a i => wBin op.f (wE a) (wE i)
  | .slc op a lo hi => wSlc op (wE a) (wO lo) (wO hi)
  | .tup es => wArgs (wL es) fun ds g Q => ds.length ≤ sizeLine ∧ Q (.v (.tup ds)) g
  | .lst es => wArgs (wL es) fun ds g Q => ds.length ≤ sizeLine ∧ Q (.tl ds) g
  | .comp own it tg c e => wComp (own.map (·.2)) (wI it) tg (wB c) (wE e)
  | .call _ sp es => wCall sp (wL es)
  | .clm _ _ sp es => wCall sp (wL es)
  | .blf f es => wArgs (wL es) f.f
  | .mth m o es => fMt m.kd m.f (wE o) (wL es)
  | .trk a => wTrk (wE a)
  | .un f a => wUn f.f (wE a)
  | .lrng es => wArgs (wL es) fLRng
  | .trng es => wArgs (wL es) fTRng
  | .callv tab o es => wCallv tab (wE o) (wL es)
  | .mk C e => wMk C (wE e)
  | .mkAt C e => wMkAt C (wE e)
  | .atf xs e => wAt xs (wE e)
  | .dis i b => wDis i b
  | .dnK => wDnK
  | .dnT => wDnT
  | .fld C f e => wFld C f (wE e)
  | .mthd C m sp o es => wMeth C m sp (wE o) (wL es)
  | .new C sp es => wNew C sp (wL es)
  | .cmp3 o1 o2 o3 a b c d => wCh3 o1.f o2.f o3.f (wE a) (wE b) (wE c) (wE d)
  | .ing neg _ ws e => wIng neg ws (wE e)
def wL : Xl → TAD
  | .nil => wNil
  | .cons e r => wCons (wE e) (wL r)
def wO : Xo → TOD
  | .no => wNoPart
  | .so e => wPart (wE e)
/-- a comprehension's test -/
def wB : Xo → TTD
  | .no => wYes
  | .so e => wTest (wE e)
def wI : Xi → TID
  | .seqL e => wSeqL (wE e)
  | .seqT e => wSeqT (wE e)
  | .rng1 a => wRng1 (wL a)
  | .rng2 a => wRng2 (wL a)
  | .enumL a => wEnumL (wL a)
  | .enumT a => wEnumT (wL a)
  | .seqA e => wSeqA (wE e)
  | .enumA a => wEnumA (wL a)
  | .zip a => wZip (wL a)
  | .rngD a => wRngD (wL a)
  | .revL a => wRevL (wL a)
  | .text e => wText (wE e)
end
/-- may stand as a test -/
def tst : Xp → Bool
  | .ite _ _ _ => false
  | .not a => tst a
  | .and a b => tst a && tst b
  | .or a b => tst a && tst b
  | _ => true

/-! ### the check against the text -/
structure Cs where
  N : List Str
  sc : Scope
  fn : Str → Bool
  /-- no exception is at hand -/
  calm : Bool := true
  /-- the classes of exceptions that are known -/
  ex : List Str := []
def visB (sc : Scope) (x : Str) : Bool := match sc.names.lookup x with | some .local | some .cell | some .free => true | _ => false
def locB (sc : Scope) (x : Str) : Bool := match sc.names.lookup x with | some .local | some .cell => true | _ => false
def glB (sc : Scope) (x : Str) : Bool := match sc.names.lookup x with | some .globalImplicit => true | _ => false
def lclB (sc : Scope) (x : Str) : Bool := match sc.names.lookup x with | some .local => true | _ => false
def nmB (x : Str) : Bool := !(x == ("__debug__" : Str)) && !(x == ("__classdict__" : Str))
def starB : Expr → Bool
  | .Starred _ _ => true
  | _ => false
def setB : Expr → Bool
  | .Set _ _ _ => true
  | _ => false
def plainB : Expr → Bool
  | .BoolOp _ _ _ | .UnaryOp .Not _ _ | .IfExp _ _ _ _ | .Compare _ _ _ _ => false
  | _ => true
def slB : Expr → Bool
  | .Slice _ _ _ _ => true
  | _ => false
def supB : Expr → Bool
  | .Call (.Name id _) [] [] _ => id == ("super" : Str)
  | _ => false
def blkCs (c : Cs) (scope : Scope) : Cs := ⟨c.N, relS scope c.sc, fun x => scope.names.lookup x == some .cell, c.calm, c.ex⟩
def chkNm (c : Cs) (i : Nat) : Expr → Bool
  | .Name x _ => decide (c.N[i]? = some x) && (locB c.sc x && (c.fn x || lclB c.sc x))
  | _ => false
def chkNms (c : Cs) : List Nat → List Expr → Bool
  | [], [] => true
  | i :: is, e :: es => chkNm c i e && chkNms c is es
  | _, _ => false
def chkTg (c : Cs) : Tg → Expr → Bool
  | .nm i, e => chkNm c i e
  | .tp is, .Tuple es _ _ => c.calm && chkNms c is es
  | .tl is, .Tuple es _ _ => c.calm && chkNms c is es
  | _, _ => false
/-- what gives pairs wants a tuple of names -/
def tupTg : Xi → Expr → Bool
  | .enumL _, .Tuple _ _ _ => true
  | .enumT _, .Tuple _ _ _ => true
  | .enumA _, .Tuple _ _ _ => true
  | .zip _, .Tuple _ _ _ => true
  | .enumL _, _ => false
  | .enumT _, _ => false
  | .enumA _, _ => false
  | .zip _, _ => false
  | _, _ => true
def ntrk : Xp → Bool
  | .trk _ => false
  | _ => true
mutual
def chkE : Cs → Xp → Expr → Bool
  | c, .var i, a => match a with | .Name x _ => decide (c.N[i]? = some x) && (visB c.sc x && nmB x) | _ => false
  | c, .cst d, a => match a, d with
    | .Constant (.int i) _ _, .int j => decide (i = j)
    | .Constant (.bool b) _ _, .bl b' => b == b'
    | .Constant .none _ _, .non => true
    | .Constant (.str x) _ _, .str y => decide (x = y)
    | _, _ => false
  | c, .glb x d, a => match a with | .Name y _ => decide (y = x) && (glB c.sc x && nmB x) | _ => false
  | c, .blt x n, a => match a with | .Name y _ => decide (y = x) && (glB c.sc x && (nmB x && !(x == ("__name__" : Str)))) | _ => false
  | c, .bin op x y, a => match a with | .BinOp l o r _ => decide (o = op.op) && (chkE c x l && chkE c y r) | _ => false
  | c, .cmp op x y, a => match a with | .Compare l [o] [r] _ => decide (o = op.op) && (!(behindInMarks o r) && (chkE c x l && chkE c y r)) | _ => false
  | c, .cmp2 o1 o2 x y z, a => match a with | .Compare l [p, q] [m, r] _ => decide (p = o1.op) && (decide (q = o2.op) && (!(lastMarks [p, q] [m, r]) && (chkE c x l && (chkE c y m && chkE c z r)))) | _ => false
  | c, .neg x, a => match a with | .UnaryOp o l _ => decide (o = .USub) && chkE c x l | _ => false
  | c, .not x, a => match a with | .UnaryOp o l _ => decide (o = .Not) && chkE c x l | _ => false
  | c, .and x y, a => match a with | .BoolOp o (l :: m :: rest) pos => decide (o = .And) && (chkE c x l && (match rest with | [] => chkE c y m | r :: rs => chkE c y (.BoolOp .And (m :: r :: rs) pos))) | _ => false
  | c, .or x y, a => match a with | .BoolOp o (l :: m :: rest) pos => decide (o = .Or) && (chkE c x l && (match rest with | [] => chkE c y m | r :: rs => chkE c y (.BoolOp .Or (m :: r :: rs) pos))) | _ => false
  | c, .ite t x y, a => match a with | .IfExp q l r _ => tst t && (chkE c t q && (chkE c x l && chkE c y r)) | _ => false
  | c, .idx op x y, a => match a with | .Subscript l r _ => !(slB r) && (chkE c x l && chkE c y r) | _ => false
  | c, .slc op x lo hi, a => match a with | .Subscript l (.Slice u v none _) _ => chkE c x l && (chkO c lo u && chkO c hi v) | _ => false
  | c, .tup es, a => match a with | .Tuple xs _ _ => chkL c es xs | _ => false
  | c, .lst es, a => match a with | .List xs _ => chkL c es xs | _ => false
  | c, .comp own it tg t e, a => match a with
    | .ListComp elt [⟨tge, iter, ifs, as⟩] scope _ => c.calm && (decide (as = 0) && (blkC c.N c.sc scope own && (tg.all.all (fun j => (own.map (·.2)).contains j) && (chkI c it iter && ((!(setB iter) && tupTg it tge) && (chkTg (blkCs c scope) tg tge && (chkB (blkCs c scope) t ifs && chkE (blkCs c scope) e elt)))))))
    | _ => false
  | c, .call x sp es, a => match a with | .Call (.Name y _) zs [] _ => c.calm && (decide (y = x) && (glB c.sc x && (nmB x && chkL c es zs))) | _ => false
  | c, .blf f es, a => match a with | .Call (.Name y _) (z :: zs) [] _ => (!f.cm || c.calm) && (f.nx.all (fun x => c.ex.contains x) && (decide (y = f.nm) && (glB c.sc y && chkL c es (z :: zs)))) | _ => false
  | c, .mth m o es, a => match a with
    | .Call (.Attribute l y ap) zs [] cp => decide (y = m.nm) && (!(supB l) && ((ap.endLine == cp.line) && (decide (zs.length < 20) && (chkE c o l && chkL c es zs))))
    | _ => false
  | c, .trk x, a => plainB a && (ntrk x && chkE c x a)
  | c, .callv tab o es, a => match a with | .Call f (z :: zs) [] _ => c.calm && ((match f with | .Subscript _ _ _ => true | .Name _ _ => true | _ => false) && (chkE c o f && chkL c es (z :: zs))) | _ => false
  | c, .mk C e, a => match a with | .Call (.Name y _) [z] [] _ => c.calm && (decide (y = C) && ((glB c.sc C && nmB C) && (!(starB z) && chkE c e z))) | _ => false
  | c, .mkAt C e, a => match a with | .Call (.Name y _) [z] [] _ => c.calm && (decide (y = C) && ((glB c.sc C && nmB C) && (!(starB z) && chkE c e z))) | _ => false
  | c, .atf xs e, a => match a with | .Attribute l y _ => decide (y = ("at" : Str)) && (!(supB l) && (xs.all (fun x => c.ex.contains x) && chkE c e l)) | _ => false
  | c, .dis i b, a => match a with | .Dict [some (.Name x _)] [.Constant (.bool b') _ _] _ => decide (c.N[i]? = some x) && (visB c.sc x && (nmB x && b == b')) | _ => false
  | c, .dnK, a => match a with | .Dict [] [] _ => true | _ => false
  | c, .dnT, a => match a with | .Dict [] [] _ => true | _ => false
  | c, .cmp3 o1 o2 o3 x y z u, a => match a with | .Compare l [p, q, t] [m, r, v] _ => decide (p = o1.op) && (decide (q = o2.op) && (decide (t = o3.op) && (!(lastMarks [p, q, t] [m, r, v]) && (chkE c x l && (chkE c y m && (chkE c z r && chkE c u v)))))) | _ => false
  | c, .ing neg x _ e, a => match a with | .Compare l [o] [.Name y _] _ => decide (o = if neg then .NotIn else .In) && (decide (y = x) && (glB c.sc x && (nmB x && chkE c e l))) | _ => false
  | c, .fld _ f e, a => match a with | .Attribute l y _ => decide (y = f) && (!(supB l) && chkE c e l) | _ => false
  | c, .mthd _ m _ o es, a => match a with
    | .Call (.Attribute l y ap) zs [] cp => c.calm && (decide (y = m) && (!(supB l) && ((ap.endLine == cp.line) && (decide (zs.length < 20) && (chkE c o l && chkL c es zs)))))
    | _ => false
  | c, .clm C m _ es, a => match a with
    | .Call (.Attribute (.Name y _) z ap) (z1 :: zs) [] cp => c.calm && (decide (y = C) && (decide (z = m) && ((ap.endLine == cp.line) && (decide (zs.length < 20) && (glB c.sc C && (nmB C && chkL c es (z1 :: zs)))))))
    | _ => false
  | c, .new C _ es, a => match a with | .Call (.Name y _) zs [] _ => c.calm && (decide (y = C) && (glB c.sc C && (nmB C && chkL c es zs))) | _ => false
  | c, .lrng es, a => match a with
    | .Call (.Name y _) [.Call (.Name z _) [x] [] _] [] _ => c.calm && (decide (y = ("list" : Str)) && (decide (z = ("range" : Str)) && (glB c.sc y && (glB c.sc z && chkL c es [x]))))
    | .Call (.Name y _) [.Call (.Name z _) [x, w] [] _] [] _ => c.calm && (decide (y = ("list" : Str)) && (decide (z = ("range" : Str)) && (glB c.sc y && (glB c.sc z && chkL c es [x, w]))))
    | _ => false
  | c, .trng es, a => match a with
    | .Call (.Name y _) [.Call (.Name z _) [x] [] _] [] _ => c.calm && (decide (y = ("tuple" : Str)) && (decide (z = ("range" : Str)) && (glB c.sc y && (glB c.sc z && chkL c es [x]))))
    | .Call (.Name y _) [.Call (.Name z _) [x, w] [] _] [] _ => c.calm && (decide (y = ("tuple" : Str)) && (decide (z = ("range" : Str)) && (glB c.sc y && (glB c.sc z && chkL c es [x, w]))))
    | _ => false
  | c, .un f x, a => match f.arg a with | some y => c.calm && (f.names.all (glB c.sc) && (!(starB y) && chkE c x y)) | none => false
def chkL : Cs → Xl → List Expr → Bool
  | _, .nil, a => a.isEmpty
  | c, .cons e r, a => match a with | x :: xs => !(starB x) && (chkE c e x && chkL c r xs) | _ => false
def chkO : Cs → Xo → Option Expr → Bool
  | _, .no, a => a.isNone
  | c, .so e, a => match a with | some x => chkE c e x | _ => false
def chkB : Cs → Xo → List Expr → Bool
  | _, .no, a => a.isEmpty
  | c, .so e, a => match a with | [x] => tst e && chkE c e x | _ => false
def chkI : Cs → Xi → Expr → Bool
  | c, .seqL e, a => chkE c e a
  | c, .seqT e, a => chkE c e a
  | c, .seqA e, a => chkE c e a
  | c, .rng1 es, a => match a with | .Call (.Name y _) [x] [] _ => decide (y = ("range" : Str)) && (glB c.sc y && chkL c es [x]) | _ => false
  | c, .enumL es, a => match a with | .Call (.Name y _) [x] [] _ => decide (y = ("enumerate" : Str)) && (glB c.sc y && chkL c es [x]) | _ => false
  | c, .enumT es, a => match a with | .Call (.Name y _) [x] [] _ => decide (y = ("enumerate" : Str)) && (glB c.sc y && chkL c es [x]) | _ => false
  | c, .zip es, a => match a with | .Call (.Name y _) [x, z] [] _ => decide (y = ("zip" : Str)) && (glB c.sc y && chkL c es [x, z]) | _ => false
  | c, .enumA es, a => match a with | .Call (.Name y _) [x] [] _ => decide (y = ("enumerate" : Str)) && (glB c.sc y && chkL c es [x]) | _ => false
  | c, .rngD es, a => match a with | .Call (.Name y _) [x, z, u] [] _ => decide (y = ("range" : Str)) && (glB c.sc y && chkL c es [x, z, u]) | _ => false
  | c, .text e, a => chkE c e a
  | c, .revL es, a => match a with | .Call (.Name y _) [x] [] _ => decide (y = ("reversed" : Str)) && (glB c.sc y && chkL c es [x]) | _ => false
  | c, .rng2 es, a => match a with | .Call (.Name y _) [x, z] [] _ => decide (y = ("range" : Str)) && (glB c.sc y && chkL c es [x, z]) | _ => false
end

/-! ### what must be known of the names -/
structure Wld where
  P : Program
  w : World
  K : PySem.W.Frag
  mg : Str → Option Value
  base : Heap
abbrev wld (X : Cx) : Wld := ⟨X.prog, X.w, X.K, X.mg, X.base⟩
def FnIn (u : Wld) (k : Nat) (x : Str) (sp : GSp) : Prop :=
  ∃ f fd ps j, j ≤ k ∧ FnG u.P u.w u.K u.mg u.base j f fd ps sp ∧ u.mg x = some (.ref f) ∧ PySem.W.keepIn u.K (.ref f) = true ∧ Binds u.K fd ps [] ∧ gaK u.K x = some f
/-- one that may be raised -/
def RzIn (u : Wld) (C : Str) : Prop := ∃ a, gaK u.K C = some a ∧ u.mg C = some (.ref a) ∧ PySem.W.excIn u.K a He.veBase "ValueError.__new__" = true ∧ PySem.W.keepIn u.K (.ref a) = true ∧ PySem.W.subIn u.K (.ref a) (.type "BaseException") = some true ∧
  PySem.W.typeIn u.K (.ref a) = some (.type "type")
/-- one that is made with a number -/
def AtIn (u : Wld) (k : Nat) (C : Str) : Prop := 2 ≤ k ∧ AtC u.P u.w u.K u.mg u.base C
/-- each def of a table -/
def TabIn (u : Wld) (k : Nat) : Tab → Prop
  | [] => True
  | (x, sp) :: r => FnIn u k x sp ∧ TabIn u k r
theorem TabIn.at_ {u : Wld} {k : Nat} : ∀ {tab : Tab}, TabIn u k tab → ∀ x sp, (x, sp) ∈ tab → FnIn u k x sp
  | [], _, _, _, h => absurd h (by simp)
  | (y, s) :: r, h, x, sp, m => by
    rcases List.mem_cons.mp m with e | m
    · cases e; exact h.1
    · exact TabIn.at_ h.2 x sp m
/-- a field of a class's instances -/
def FlIn (u : Wld) (C f : Str) : Prop := ∃ c, gaK u.K C = some c ∧ Cls u.K c ∧ NoAttr u.K c f
/-- a method of a class -/
def MtIn (u : Wld) (k : Nat) (C m : Str) (sp : GSp) : Prop := ∃ c f fd ps j, j ≤ k ∧ gaK u.K C = some c ∧ Cls u.K c ∧ Meth u.K c m f ∧ FnG u.P u.w u.K u.mg u.base j f fd ps sp ∧ Binds u.K fd ps []
/-- a class that is made with its __init__ -/
def NwIn (u : Wld) (k : Nat) (C : Str) (sp : GSp) : Prop := ∃ c f fd ps j, j + 1 ≤ k ∧ gaK u.K C = some c ∧ u.mg C = some (.ref c) ∧ Mk u.K c f ∧ FnG u.P u.w u.K u.mg u.base j f fd ps sp ∧ Binds u.K fd ps []
/-- a def of a class, called by the class's name -/
def CmIn (u : Wld) (k : Nat) (C m : Str) (sp : GSp) : Prop := ∃ c f fd ps j, j ≤ k ∧ u.mg C = some (.ref c) ∧ ClmC u.K c m f ∧ FnG u.P u.w u.K u.mg u.base j f fd ps sp ∧ Binds u.K fd ps []
def GlIn (u : Wld) (x : Str) (d : D) : Prop := ∃ z v, u.mg x = some z ∧ RelV v z ∧ ∀ H g, Rep u.K H g v d
/-- a written tuple of texts -/
def GtIn (u : Wld) (x : Str) (ws : List Str) : Prop := ∃ a, u.mg x = some (.ref a) ∧ ∀ H, SqT u.K H a (ws.map V.str)
mutual
def NdE (u : Wld) (k : Nat) : Xp → Prop
  | .var _ | .cst _ | .dis _ _ | .dnK | .dnT => True
  | .glb x d => GlIn u x d
  | .blt x n => bootBuiltins x = some (.type n) ∧ u.mg x = none
  | .bin _ a b | .cmp _ a b | .and a b | .or a b | .idx _ a b => NdE u k a ∧ NdE u k b
  | .cmp2 _ _ a b c | .ite a b c => NdE u k a ∧ NdE u k b ∧ NdE u k c
  | .neg a | .not a | .trk a | .un _ a => NdE u k a
  | .slc _ a lo hi => NdE u k a ∧ NdO u k lo ∧ NdO u k hi
  | .tup es | .lst es | .blf _ es | .lrng es | .trng es => NdL u k es
  | .comp _ it _ c e => NdI u k it ∧ NdO u k c ∧ NdE u k e
  | .call x sp es => FnIn u k x sp ∧ NdL u k es
  | .mth _ o es => NdE u k o ∧ NdL u k es
  | .callv tab o es => TabIn u k tab ∧ NdE u k o ∧ NdL u k es
  | .mk C e => RzIn u C ∧ NdE u k e
  | .mkAt C e => AtIn u k C ∧ NdE u k e
  | .atf _ e => NdE u k e
  | .fld C f e => FlIn u C f ∧ NdE u k e
  | .ing _ x ws e => GtIn u x ws ∧ NdE u k e
  | .cmp3 _ _ _ a b c d => NdE u k a ∧ NdE u k b ∧ NdE u k c ∧ NdE u k d
  | .mthd C m sp o es => MtIn u k C m sp ∧ NdE u k o ∧ NdL u k es
  | .new C sp es => NwIn u k C sp ∧ NdL u k es
  | .clm C m sp es => CmIn u k C m sp ∧ NdL u k es
def NdL (u : Wld) (k : Nat) : Xl → Prop
  | .nil => True
  | .cons e r => NdE u k e ∧ NdL u k r
def NdO (u : Wld) (k : Nat) : Xo → Prop
  | .no => True
  | .so e => NdE u k e
def NdI (u : Wld) (k : Nat) : Xi → Prop
  | .seqL e | .seqT e | .seqA e | .text e => NdE u k e
  | .rng1 a | .rng2 a | .enumL a | .enumT a | .enumA a | .zip a | .rngD a | .revL a => NdL u k a
end
def bnames : List Str := ["len", "all", "any", "abs", "min", "max", "sorted", "list", "tuple", "int", "isinstance", "str", "range", "repr", "enumerate", "set", "zip", "reversed", "dict"]
structure Amb (c : Cs) (k : Nat) (X : Cx) : Prop where
  hN : X.N = c.N
  sc : X.env.scope = c.sc
  fn : ∀ x, c.fn x = true → X.fn x = true
  nd : X.N.Nodup
  calm : c.calm = true → X.calm = true
  room : c.calm = true → Room k X.A
  un : X.A.units + 72 < cLine
  ex : ExcW X.K c.ex
  nb : ∀ x ∈ bnames, X.mg x = none
  gu : X.A.guards = some []
end G3
/-! G3: soundness of the small syntax -/
namespace G3
open PySem L2

theorem locB_ok {sc : Scope} {x : Str} (h : locB sc x = true)   : L2.Loc sc x := by
  unfold locB at h
  unfold L2.Loc
  split at h
  · rename_i q; exact .inl q
  · rename_i q; exact .inr q
  · cases h
theorem visB_ok {sc : Scope} {x : Str} (h : visB sc x = true) : L2.Vis sc x := by
  unfold visB at h
  unfold L2.Vis
  split at h
  · rename_i q; exact .inl q
  · rename_i q; exact .inr (.inl q)
  · rename_i q; exact .inr (.inr q)
  · cases h
theorem lclB_ok {sc : Scope} {x : Str} (h : lclB sc x = true) : sc.names.lookup x = some .local := by
  unfold lclB at h
  split at h
  · rename_i q; exact q
  · cases h
theorem glB_ok {X : Cx} {c : Cs} {k : Nat} {x : Str} (A : Amb c k X) (h : glB c.sc x = true) : Gl X x := by
  unfold glB at h
  show X.env.scope.names.lookup x = _
  rw [A.sc]
  split at h
  · rename_i q; exact q
  · cases h
theorem nmB_ok {x : Str} (h : nmB x = true) : (x == ("__debug__" : Str)) = false ∧ (x == ("__classdict__" : Str)) = false := by
  unfold nmB at h
  simp only [Bool.and_eq_true, Bool.not_eq_true'] at h
  exact h
theorem star_cons {e : Expr} {es : List Expr} {env : PySem.Env} (h : starB e = false) : starEach (e :: es) env = (false, eval e env) :: starEach es env := by
  cases e <;> first | rfl | cases h
theorem backTo_any {pos : Pos} : ∀ {es : List (Bool × Sem Value)}, es.any (·.1) = false → (backTo pos es).any (·.1) = false
  | [], _ => rfl
  | (b, t) :: es, h => by
    rw [List.any_cons, Bool.or_eq_false_iff] at h
    show (b || (backTo pos es).any (·.1)) = false
    rw [backTo_any h.2, Bool.or_false]
    exact h.1
theorem chkL_star {c : Cs} {env : PySem.Env} : ∀ {l : Xl} {es : List Expr}, chkL c l es = true → (starEach es env).any (·.1) = false
  | .nil, [], _ => rfl
  | .nil, _ :: _, h => by simp [chkL] at h
  | .cons e r, [], h => by simp [chkL] at h
  | .cons e r, x :: xs, h => by
    simp only [chkL, Bool.and_eq_true, Bool.not_eq_true'] at h
    rw [star_cons h.1]
    show (false || (starEach xs env).any (·.1)) = false
    rw [chkL_star h.2.2]; rfl
theorem star_len {env : PySem.Env} : ∀ {es : List Expr}, (starEach es env).length = es.length
  | [] => rfl
  | e :: es => by
    have := star_len (env := env) (es := es)
    cases e <;> (show (starEach es env).length + 1 = es.length + 1; rw [this])
theorem star_all {pos : Pos} : ∀ {es : List (Bool × Sem Value)}, es.any (·.1) = false → (backTo pos es).all (fun x => !x.1) = true
  | [], _ => rfl
  | (b, t) :: es, h => by
    rw [List.any_cons, Bool.or_eq_false_iff] at h
    show (!b && (backTo pos es).all (fun x => !x.1)) = true
    rw [star_all h.2, show b = false from h.1]; rfl
theorem pt_plain {X : Cx} {a : Expr} {t : TE} (h : PE X a t) (p : plainB a = true) : PT X a (tB t) := by
  refine pt_val h ?_
  cases a with
  | UnaryOp op x pos => cases op <;> first | (intro _; rfl) | cases p
  | BoolOp _ _ _ => cases p
  | IfExp _ _ _ _ => cases p
  | Compare _ _ _ _ => cases p
  | _ => intro _; rfl
theorem set_same {X : Cx} {a : Expr} (h : setB a = false) : ∀ x, foldedSetIterable a X.env x = pure x := by
  cases a <;> first | (intro _; rfl) | cases h
theorem ix_plain {b : Expr} (h : slB b = false) : PlainIx b := by
  intro o i
  cases b <;> first | rfl | cases h
theorem sup_base {o : Expr} {attr : Str} {env : PySem.Env} {w : Sem Value} (h : supB o = false) : attributeBase o attr env w = w := by
  unfold attributeBase
  split
  · rename_i id p pos
    have h : (id == ("super" : Str)) = false := h
    have : (id != ("super" : Str)) = true := by unfold bne; rw [h]; rfl
    rw [this]
    rfl
  · rfl
section
variable {X : Cx} {c : Cs} {k : Nat}
theorem pg_nm (A : Amb c k X) {i : Nat} {e : Expr} (h : chkNm c i e = true) : PG X e (gName i) := by
  unfold chkNm at h
  split at h
  · rename_i x p
    simp only [Bool.and_eq_true, Bool.or_eq_true, decide_eq_true_eq] at h
    obtain ⟨h1, h2, h3⟩ := h
    refine pg_name A.nd (by rw [A.hN]; exact h1) (by rw [A.sc]; exact locB_ok h2) ?_
    rcases h3 with h3 | h3
    · exact .inl (A.fn x h3)
    · exact .inr (by rw [A.sc]; exact lclB_ok h3)
  · cases h
theorem chkNm_star {i : Nat} {e : Expr} (h : chkNm c i e = true) : ∃ x p, e = .Name x p := by
  unfold chkNm at h
  split at h
  · exact ⟨_, _, rfl⟩
  · cases h
theorem pgs_nms (A : Amb c k X) : ∀ {is : List Nat} {es : List Expr}, chkNms c is es = true → PGs X es (gNames is) ∧ (assignEach es X.env).length = is.length ∧ (assignEach es X.env).findIdx? (·.1) = none
  | [], [], _ => ⟨pgs_nil, rfl, rfl⟩
  | [], _ :: _, h => by simp [chkNms] at h
  | _ :: _, [], h => by simp [chkNms] at h
  | i :: is, e :: es, h => by
    simp only [chkNms, Bool.and_eq_true] at h
    obtain ⟨h1, h2⟩ := h
    obtain ⟨q1, q2, q3⟩ := pgs_nms A h2
    have g := pg_nm A h1
    obtain ⟨x, p, rfl⟩ := chkNm_star h1
    refine ⟨pgs_cons g q1 rfl, ?_, ?_⟩
    · show (assignEach es X.env).length + 1 = _
      rw [q2]; rfl
    · show List.findIdx? _ ((false, assign (.Name x p) X.env) :: assignEach es X.env) = none
      rw [List.findIdx?_cons, q3]
      rfl
theorem pg_tg (A : Amb c k X) {tg : Tg} {e : Expr} (h : chkTg c tg e = true) : PG X e (gTg X.K tg) := by
  cases tg with
  | nm i => exact pg_nm A h
  | tp is =>
    cases e with
    | Tuple es kk pos =>
      have h := Bool.and_eq_true_iff.mp (show (c.calm && chkNms c is es) = true from h)
      obtain ⟨q1, q2, q3⟩ := pgs_nms A h.2
      exact pg_tup (A.calm h.1) q1 q2 q3
    | _ => cases h
  | tl is =>
    cases e with
    | Tuple es kk pos =>
      have h := Bool.and_eq_true_iff.mp (show (c.calm && chkNms c is es) = true from h)
      obtain ⟨q1, q2, q3⟩ := pgs_nms A h.2
      exact pg_lst (A.calm h.1) q1 q2 q3
    | _ => cases h
def Tr3 (X : Cx) (W : L2.WX) (e : Xp) (a : Expr) : Prop :=
  PE X a (LE X.K (WE W) (wE e)) ∧ (tst e = true → PT X a (LT X.K (WE W) (wTest (wE e)))) ∧ (tst e = true → (∃ op vs p, a = .BoolOp op vs p) → PW X a (LT X.K (WE W) (wTest (wE e))))
theorem tr3_plain {W : L2.WX} {e : Xp} {a : Expr} (h : PE X a (LE X.K (WE W) (wE e))) (p : plainB a = true) : Tr3 X W e a :=
  ⟨h, fun _ => q_val (pt_plain h p), fun _ ⟨_, _, _, z⟩ => by subst z; cases p⟩
theorem op_slc {W : L2.WX} {op : Sop} {ta : TD} {tl th : TOD} {r : V → Option Int → Option Int → Hp → VK → Prop} (hr : RSOk X.K (fSl op) r) {σ : L2.St} {H : Hp} {Q : VK}
    {LO : TOD → TO} (hLO : ∀ t, LO t = fun σ H Q => ∃ B ρ g Q0 W0, RepS X.K (hide H B) g σ ρ ∧ Vw X.K B H g ∧ t ρ g Q0 W0 ∧ (∀ o g' H', Q0 o g' → Vw X.K B H' g' → Fr H g H' g' → Q o H') ∧ XCont X.K B H g W0 (WE W σ))
    (h : LE X.K (WE W) (wSlc op ta tl th) σ H Q) : tSl r (LE X.K (WE W) ta) (LO tl) (LO th) σ H Q := by
  obtain ⟨B, ρ, g, Q0, W0, rs, w, t, c, xc⟩ := h
  refine ⟨B, ρ, g, _, W0, rs, w, t, fun x g1 v H1 hb rx w1 f1 _ => ?_, xc⟩
  rw [hLO]
  refine ⟨B, ρ, g1, _, W0, rs.fv w f1, w1, hb, fun lo g2 H2 hb w2 f2 => ?_, xc.after f1⟩
  rw [hLO]
  refine ⟨B, ρ, g2, _, W0, rs.fv w (f1.trans f2), w2, hb, fun hi g3 H3 hb w3 f3 => ?_, xc.after (f1.trans f2)⟩
  exact hr v (.v x.fz) lo hi B H3 g3 Q0 Q (rx.fv w1 (f2.trans f3)) w3 hb (c.after (f1.trans (f2.trans f3)))

theorem LE.imp {K : PySem.W.Frag} {E : L2.St → XK} {t : TD} {σ : L2.St} {H : Hp} {Q Q' : VK} (h : LE K E t σ H Q) (i : ∀ x H1, Q x H1 → Q' x H1) : LE K E t σ H Q' := by
  obtain ⟨B, ρ, g, Q0, W0, rs, w, t, c, xc⟩ := h
  exact ⟨B, ρ, g, Q0, W0, rs, w, t, fun d g' v H' a b c' d' e' => i _ _ (c d g' v H' a b c' d' e'), xc⟩
theorem la_nil {K : PySem.W.Frag} {E : L2.St → XK} {σ : L2.St} {H : Hp} {Q : List V → Hp → Prop} (h : LA K E wNil σ H Q) : Q [] H := by
  obtain ⟨B, ρ, g, Q0, W0, rs, w, t, c, xc⟩ := h
  exact c [] g [] H t .nil w (Fr.refl _ _)
theorem Bfn.mem : ∀ f : Bfn, f.nm ∈ bnames
  | .isi _ | .isE _ => by show ("isinstance" : Str) ∈ bnames; decide
  | .repr | .reprN | .minL | .maxL | .minA | .maxA | .len | .lenS | .lenA | .all | .any | .abs | .min2 | .max2 | .sorted | .sortedM | .sortedD | .list | .dictP | .dictD | .tuple | .intB | .intS | .strI => by decide
/-- a slice's part -/
def LO (K : PySem.W.Frag) (E : L2.St → XK) (t : TOD) : TO := fun σ H Q => ∃ B ρ g Q0 W0, RepS K (hide H B) g σ ρ ∧ Vw K B H g ∧ t ρ g Q0 W0 ∧ (∀ o g' H', Q0 o g' → Vw K B H' g' → Fr H g H' g' → Q o H') ∧ XCont K B H g W0 (E σ)
theorem PO.of {e : Option Expr} {t t' : TO} (h : PO X e t') (i : ∀ σ H Q, t σ H Q → t' σ H Q) : PO X e t := ⟨fun pins s σ H Q I q => h.run pins s σ H Q I (i σ H Q q)⟩
theorem q_noP {W : L2.WX} : PO X none (LO X.K (WE W) wNoPart) := PO.of po_none fun σ H Q ⟨B, ρ, g, Q0, W0, rs, w, t, c, xc⟩ => c none g H t w (Fr.refl _ _)
theorem q_soP {W : L2.WX} {e : Expr} {ta : TD} (h : PE X e (LE X.K (WE W) ta)) : PO X (some e) (LO X.K (WE W) (wPart ta)) :=
  PO.of (po_some h) fun σ H Q ⟨B, ρ, g, Q0, W0, rs, w, t, c, xc⟩ => ⟨B, ρ, g, _, W0, rs, w, t, fun x g1 v H1 hb rx w1 f1 _ => by
    match x, rx, hb with
    | .v (.int i), rx, hb => exact ⟨i, int_of rx, c _ g1 H1 hb w1 f1⟩
    | .v .non, _, hb | .v (.bl _), _, hb | .v (.str _), _, hb | .v (.ty _), _, hb | .v (.ref _), _, hb | .v (.tup _), _, hb | .v (.lst _), _, hb | .v (.rl _), _, hb | .tl _, _, hb => exact hb.elim, xc⟩
theorem q_chain {W : L2.WX} {a b d : Expr} {o1 o2 : Cop} {ta tb tc : TD} {r r' : R2} {pos : Pos} (h1 : R2Ok X.K o1.f r) (h2 : R2Ok X.K o2.f r') {σ : L2.St} {H : Hp} {Q : VK} (h : LE X.K (WE W) (wCh o1.f o2.f ta tb tc) σ H Q) :
    tChain r r' (LE X.K (WE W) ta) (LE X.K (WE W) tb) (LE X.K (WE W) tc) σ H Q := by
  obtain ⟨B, ρ, g, Q0, W0, rs, w, t, c, xc⟩ := h
  refine ⟨B, ρ, g, _, W0, rs, w, t, fun x g1 v H1 hb rx w1 f1 _ => ?_, xc⟩
  refine ⟨B, ρ, g1, _, W0, rs.fv w f1, w1, hb, fun y g2 u H2 hb ry w2 f2 _ => ?_, xc.after f1⟩
  refine h1 v u x y B H2 g2 _ _ (rx.fv w1 f2) ry w2 hb fun z g3 zv H3 hz rz w3 f3 _ => ?_
  have f23 := f2.trans f3
  match z, rz, hz with
  | .v (.bl k), rz, hz =>
    refine ⟨k, bl_of rz, ?_⟩
    cases k with
    | false => exact (c.after (f1.trans f23)).here hz (.bl false) w3
    | true =>
      refine ⟨B, ρ, g3, _, W0, rs.fv w (f1.trans f23), w3, hz, fun z' g4 zv' H4 hb rz' w4 f4 _ => ?_, xc.after (f1.trans f23)⟩
      exact h2 u zv' (.v y.fz) z' B H4 g4 Q0 Q (ry.fv w2 (f3.trans f4)) rz' w4 hb (c.after (f1.trans (f23.trans f4)))
  | .v .non, _, hb | .v (.int _), _, hb | .v (.str _), _, hb | .v (.ty _), _, hb | .v (.ref _), _, hb | .v (.tup _), _, hb | .v (.lst _), _, hb | .v (.rl _), _, hb | .tl _, _, hb => exact hb.elim
theorem Amb.hu (A : Amb c k X) : X.A.units + 65 < cLine := by have := A.un; omega
theorem blk_amb (A : Amb c k X) (s : Shared) (H : Hp) (scope : Scope) (cl : List (Str × Addr)) (C : Addr) (fp : List Addr) : Amb (blkCs c scope) k (X.blk s H scope (compEnvC scope cl C X.env) fp) :=
  ⟨A.hN, by
    show relS scope X.env.scope = relS scope c.sc
    rw [A.sc], fun x h => h, A.nd, A.calm, A.room, A.un, A.ex, A.nb, A.gu⟩
end
theorem Ufn.names_mem (f : Ufn) : ∀ n ∈ f.names, n ∈ bnames := by cases f <;> decide
theorem Ufn.arg_plain (f : Ufn) {a y : Expr} (h : f.arg a = some y) : plainB a = true := by
  cases f
  · change argS a = some y at h
    unfold argS at h
    split at h
    · rfl
    · cases h
  · change argN a = some y at h
    unfold argN at h
    split at h
    · rfl
    · cases h
  · change argR a = some y at h
    unfold argR at h
    split at h
    · rfl
    · cases h
  · change argR a = some y at h
    unfold argR at h
    split at h
    · rfl
    · cases h
  · change argR2 a = some y at h
    unfold argR2 at h
    split at h
    · rfl
    · cases h
  · change argS a = some y at h
    unfold argS at h
    split at h
    · rfl
    · cases h
  · change argN a = some y at h
    unfold argN at h
    split at h
    · rfl
    · cases h
mutual
theorem sE : ∀ (e : Xp) {X : Cx} {c : Cs} {k : Nat} {a : Expr} {W : L2.WX}, Amb c k X → Takes X W → chkE c e a = true → NdE (wld X) k e → Tr3 X W e a
  | .var i, X, c, k, a, W, A, tk, h, nd => by
    cases a with
    | Name x p =>
      simp only [chkE, Bool.and_eq_true, decide_eq_true_eq] at h
      obtain ⟨h1, h2, h3⟩ := h
      exact tr3_plain (q_var (pe_var (by rw [A.hN]; exact h1) (by rw [A.sc]; exact visB_ok h2) (nmB_ok h3).1 (nmB_ok h3).2)) rfl
    | _ => cases h
  | .cst d, X, c, k, a, W, A, tk, h, nd => by
    cases a with
    | Constant v kk p =>
      refine tr3_plain ?_ rfl
      match v, d, h with
      | .int i, .int j, h => have e := of_decide_eq_true (show decide (i = j) = true from h); subst e; exact q_c pe_int fun _ _ => .int _
      | .bool b, .bl b', h => have e := eq_of_beq (show (b == b') = true from h); subst e; exact q_c pe_bl fun _ _ => .bl _
      | .none, .non, h => exact q_c pe_non fun _ _ => .non
      | .str x, .str y, h => have e := of_decide_eq_true (show decide (x = y) = true from h); subst e; exact q_c pe_str fun _ _ => .str _
    | _ => cases h
  | .glb x d, X, c, k, a, W, A, tk, h, nd => by
    cases a with
    | Name y p =>
      simp only [chkE, Bool.and_eq_true, decide_eq_true_eq] at h
      obtain ⟨rfl, h2, h3⟩ := h
      obtain ⟨z, v, hm, r, hr⟩ := nd
      exact tr3_plain (q_c (pe_glob (glB_ok A h2) hm r (nmB_ok h3).1) hr) rfl
    | _ => cases h
  | .blt x n, X, c, k, a, W, A, tk, h, nd => by
    cases a with
    | Name y p =>
      simp only [chkE, Bool.and_eq_true, decide_eq_true_eq, Bool.not_eq_true'] at h
      obtain ⟨rfl, h2, h3, h4⟩ := h
      exact tr3_plain (q_c (pe_bltn (v := .ty n) (glB_ok A h2) nd.2 nd.1 rfl (fun e => by rw [e] at h4; simp at h4) (nmB_ok h3).1) fun _ _ => .ty n) rfl
    | _ => cases h
  | .bin op x y, X, c, k, a, W, A, tk, h, nd => by
    cases a with
    | BinOp l o r p =>
      simp only [chkE, Bool.and_eq_true, decide_eq_true_eq] at h
      obtain ⟨rfl, h1, h2⟩ := h
      obtain ⟨rr, h3, h4⟩ := op.ok X
      exact tr3_plain (PE.of (pe_op h3 (sE x A tk h1 nd.1).1 (sE y A tk h2 nd.2).1) fun σ H Q h => bin_imp h4 h) rfl
    | _ => cases h
  | .cmp op x y, X, c, k, a, W, A, tk, h, nd => by
    cases a with
    | Compare l os rs p =>
      match os, rs, h with
      | [o], [r], h =>
        simp only [chkE, Bool.and_eq_true, decide_eq_true_eq, Bool.not_eq_true'] at h
        obtain ⟨rfl, h0, h1, h2⟩ := h
        obtain ⟨rr, h3, h4⟩ := op.ok X A.hu
        have q1 := (sE x A tk h1 nd.1).1
        have q2 := (sE y A tk h2 nd.2).1
        exact ⟨PE.of (pe_cmpR h3 q1 q2 h0) fun σ H Q h => bin_imp h4 h, fun _ => PT.of (pt_cmpR h3 q1 q2 h0) fun σ H Q h => test_imp (fun σ H Q h => bin_imp h4 h) h, fun _ ⟨_, _, _, z⟩ => nomatch z⟩
      | [], _, h => simp [chkE] at h
      | _ :: _ :: _, _, h => simp [chkE] at h
      | [_], [], h => simp [chkE] at h
      | [_], _ :: _ :: _, h => simp [chkE] at h
    | _ => cases h
  | .cmp2 o1 o2 x y z, X, c, k, a, W, A, tk, h, nd => by
    simp only [chkE] at h
    split at h
    · rename_i l p q m r pos
      simp only [Bool.and_eq_true, decide_eq_true_eq, Bool.not_eq_true'] at h
      obtain ⟨rfl, rfl, h0, h1, h2, h5⟩ := h
      obtain ⟨rr, h3, h4⟩ := o1.ok X A.hu
      obtain ⟨rr', h3', h4'⟩ := o2.ok X A.hu
      have q1 := (sE x A tk h1 nd.1).1
      have q2 := (sE y A tk h2 nd.2.1).1
      have q3 := (sE z A tk h5 nd.2.2).1
      exact ⟨PE.of (pe_chain h3 h3' q1 q2 q3 h0) fun σ H Q h => q_chain (a := l) (b := m) (d := r) (pos := pos) h4 h4' h, fun _ => PT.of (pt_chain h3 h3' q1 q2 q3 h0) fun σ H Q h => test_imp (fun σ H Q h => q_chain (a := l) (b := m) (d := r) (pos := pos) h4 h4' h) h, fun _ ⟨_, _, _, z⟩ => nomatch z⟩
    · cases h
  | .neg x, X, c, k, a, W, A, tk, h, nd => by
    cases a with
    | UnaryOp o l p =>
      simp only [chkE, Bool.and_eq_true, decide_eq_true_eq] at h
      obtain ⟨rfl, h1⟩ := h
      exact tr3_plain (q_un ok_neg (pe_un un_neg (sE x A tk h1 nd).1)) rfl
    | _ => cases h
  | .not x, X, c, k, a, W, A, tk, h, nd => by
    cases a with
    | UnaryOp o l p =>
      simp only [chkE, Bool.and_eq_true, decide_eq_true_eq] at h
      obtain ⟨rfl, h1⟩ := h
      have q := sE x A tk h1 nd
      exact ⟨q_not (pe_not q.1), fun t => q_tNot (pt_not (q.2.1 t)), fun _ ⟨_, _, _, z⟩ => nomatch z⟩
    | _ => cases h
  | .and x y, X, c, k, a, W, A, tk, h, nd => by
    simp only [chkE] at h
    split at h
    · rename_i o l m rest pos
      simp only [Bool.and_eq_true, decide_eq_true_eq] at h
      obtain ⟨rfl, h1, h2⟩ := h
      have q := sE x A tk h1 nd.1
      cases rest with
      | nil =>
        have q' := sE y A tk h2 nd.2
        refine ⟨q_and (pe_and q.1 (pe_one q'.1)), fun t => ?_, fun t _ => ?_⟩
        · simp only [tst, Bool.and_eq_true] at t
          exact (q_wAnd (pw_and (q.2.1 t.1) (pw_and1 (q'.2.1 t.2)))).pt
        · simp only [tst, Bool.and_eq_true] at t
          exact q_wAnd (pw_and (q.2.1 t.1) (pw_and1 (q'.2.1 t.2)))
      | cons r rs =>
        have q' := sE y A tk h2 nd.2
        refine ⟨q_and (pe_and q.1 q'.1), fun t => ?_, fun t _ => ?_⟩
        · simp only [tst, Bool.and_eq_true] at t
          exact (q_wAnd (pw_and (q.2.1 t.1) (q'.2.2 t.2 ⟨_, _, _, rfl⟩))).pt
        · simp only [tst, Bool.and_eq_true] at t
          exact q_wAnd (pw_and (q.2.1 t.1) (q'.2.2 t.2 ⟨_, _, _, rfl⟩))
    · cases h
  | .or x y, X, c, k, a, W, A, tk, h, nd => by
    simp only [chkE] at h
    split at h
    · rename_i o l m rest pos
      simp only [Bool.and_eq_true, decide_eq_true_eq] at h
      obtain ⟨rfl, h1, h2⟩ := h
      have q := sE x A tk h1 nd.1
      cases rest with
      | nil =>
        have q' := sE y A tk h2 nd.2
        refine ⟨q_or (pe_or q.1 (pe_one q'.1)), fun t => ?_, fun t _ => ?_⟩
        · simp only [tst, Bool.and_eq_true] at t
          exact (q_wOr (pw_or (q.2.1 t.1) (pw_or1 (q'.2.1 t.2)))).pt
        · simp only [tst, Bool.and_eq_true] at t
          exact q_wOr (pw_or (q.2.1 t.1) (pw_or1 (q'.2.1 t.2)))
      | cons r rs =>
        have q' := sE y A tk h2 nd.2
        refine ⟨q_or (pe_or q.1 q'.1), fun t => ?_, fun t _ => ?_⟩
        · simp only [tst, Bool.and_eq_true] at t
          exact (q_wOr (pw_or (q.2.1 t.1) (q'.2.2 t.2 ⟨_, _, _, rfl⟩))).pt
        · simp only [tst, Bool.and_eq_true] at t
          exact q_wOr (pw_or (q.2.1 t.1) (q'.2.2 t.2 ⟨_, _, _, rfl⟩))
    · cases h
  | .ite t x y, X, c, k, a, W, A, tk, h, nd => by
    cases a with
    | IfExp q l r p =>
      simp only [chkE, Bool.and_eq_true] at h
      obtain ⟨h0, h1, h2, h3⟩ := h
      exact ⟨q_ite (pe_ifExp ((sE t A tk h1 nd.1).2.1 h0) (sE x A tk h2 nd.2.1).1 (sE y A tk h3 nd.2.2).1), fun t => by simp [tst] at t, fun t _ => by simp [tst] at t⟩
    | _ => cases h
  | .idx op x y, X, c, k, a, W, A, tk, h, nd => by
    cases a with
    | Subscript l r p =>
      simp only [chkE, Bool.and_eq_true, Bool.not_eq_true'] at h
      obtain ⟨h0, h1, h2⟩ := h
      obtain ⟨rr, h3, h4⟩ := op.ok X A.hu
      exact tr3_plain (PE.of (pe_ix h3 (sE x A tk h1 nd.1).1 (sE y A tk h2 nd.2).1 (ix_plain h0)) fun σ H Q h => bin_imp h4 h) rfl
    | _ => cases h
  | .slc op x lo hi, X, c, k, a, W, A, tk, h, nd => by
    simp only [chkE] at h
    split at h
    · rename_i l u v p p2
      simp only [Bool.and_eq_true] at h
      obtain ⟨h1, h2, h3⟩ := h
      obtain ⟨rr, h4, h5⟩ := op.ok X
      exact tr3_plain (PE.of (pe_slice h4 (sE x A tk h1 nd.1).1 (sO lo A tk h2 nd.2.1) (sO hi A tk h3 nd.2.2)) fun σ H Q h => op_slc h5 (fun _ => rfl) h) rfl
    · cases h
  | .tup es, X, c, k, a, W, A, tk, h, nd => by
    cases a with
    | Tuple xs kk p => exact tr3_plain (q_tup (sL es A tk h nd)) rfl
    | _ => cases h
  | .lst es, X, c, k, a, W, A, tk, h, nd => by
    cases a with
    | List xs p => exact tr3_plain (q_lst (sL es A tk h nd)) rfl
    | _ => cases h
  | .comp own it tg t e, X, c, k, a, W, A, tk, h, nd => by
    simp only [chkE] at h
    split at h
    · rename_i elt tge iter ifs as scope pos
      simp only [Bool.and_eq_true, decide_eq_true_eq, Bool.not_eq_true'] at h
      obtain ⟨h9, rfl, h1, h2, h3, ⟨h4, h8⟩, h5, h6, h7⟩ := h
      refine tr3_plain (q_comp (fun j hj => ?_) (pe_lc (A.calm h9) A.nd (sI it A tk h3 h8 nd.1) (own := own) (by rw [A.hN, A.sc]; exact blkOk_by h1) (fun s H C cl fp => ?_) (fun s H C cl fp => ?_) (fun s H C cl fp => ?_) (set_same h4))) rfl
      · have := List.all_eq_true.mp h2 j hj
        exact List.contains_iff_mem.mp this
      · exact pg_tg (blk_amb A s H scope cl C fp) h5
      · exact sB t (blk_amb A s H scope cl C fp) takes0 h6 nd.2.1
      · exact (sE e (W := fun _ _ _ _ => False) (blk_amb A s H scope cl C fp) takes0 h7 nd.2.2).1
    · cases h
  | .call x sp es, X, c, k, a, W, A, tk, h, nd => by
    simp only [chkE] at h
    split at h
    · rename_i y p zs pos
      simp only [Bool.and_eq_true, decide_eq_true_eq] at h
      obtain ⟨h9, rfl, h1, h2, h3⟩ := h
      obtain ⟨⟨f, fd, ps, j, hj, F, hm, hk, hb, _⟩, nd2⟩ := nd
      have hst := chkL_star (env := X.env) h3
      cases es with
      | nil =>
        cases zs with
        | nil => exact tr3_plain (q_call0 F A.gu ((A.room h9).mono hj) (glB_ok A h1) hm hk hb tk (nmB_ok h2).1) rfl
        | cons z zs => simp [chkL] at h3
      | cons e1 r1 =>
        obtain ⟨z, zs, rfl⟩ : ∃ z zs', zs = z :: zs' := by
          cases zs with
          | nil => simp [chkL] at h3
          | cons z zs => exact ⟨z, zs, rfl⟩
        have h3' := h3
        simp only [chkL, Bool.and_eq_true, Bool.not_eq_true'] at h3'
        exact tr3_plain (q_call F A.gu ((A.room h9).mono hj) (glB_ok A h1) hm hk hb tk (sL _ A tk h3 nd2) (nmB_ok h2).1 (star_cons h3'.1) (backTo_any (chkL_star h3'.2.2))) rfl
    · cases h
  | .blf f es, X, c, k, a, W, A, tk, h, nd => by
    simp only [chkE] at h
    split at h
    · rename_i y p z zs pos
      simp only [Bool.and_eq_true, Bool.or_eq_true, Bool.not_eq_true', List.all_eq_true, decide_eq_true_eq] at h
      obtain ⟨h8, h9, rfl, h1, h3⟩ := h
      obtain ⟨r, hr, ho⟩ := f.ok X (fun z => A.calm (h8.resolve_left (by rw [z]; simp))) A.gu (by have := A.un; omega) (A.ex.sub fun x hx => List.contains_iff_mem.mp (h9 x hx))
      cases es with
      | nil => simp [chkL] at h3
      | cons e1 r1 =>
        have h3' := h3
        simp only [chkL, Bool.and_eq_true, Bool.not_eq_true'] at h3'
        have hn : X.mg f.nm = none := A.nb _ f.mem
        refine tr3_plain (q_args ho ?_) rfl
        have hb := f.boot
        rcases f.kind with ⟨id, e⟩ | ⟨T, e⟩
        · rw [e] at hr hb
          exact pe_callB hr (glB_ok A h1) hn hb (sL _ A tk h3 nd) f.nm_ok.1 f.nm_ok.2 (star_cons h3'.1) (backTo_any (chkL_star h3'.2.2))
        · rw [e] at hr hb
          exact pe_callTy hr (glB_ok A h1) hn hb (sL _ A tk h3 nd) f.nm_ok.1 f.nm_ok.2 (star_cons h3'.1) (backTo_any (chkL_star h3'.2.2))
    · cases h
  | .mth m o es, X, c, k, a, W, A, tk, h, nd => by
    simp only [chkE] at h
    split at h
    · rename_i l y ap zs cp
      simp only [Bool.and_eq_true, decide_eq_true_eq, Bool.not_eq_true'] at h
      obtain ⟨rfl, h1, h2, h3, h4, h5⟩ := h
      obtain ⟨r, hr, ho⟩ := m.ok X A.hu
      have q1 := (sE o A tk h4 nd.1).1
      have q2 := sL es A tk h5 nd.2
      refine tr3_plain (PE.of (t' := tBM X.K m.kd r (LE X.K (WE W) (wE o)) (LA X.K (WE W) (wL es))) ?_ fun σ H Q h => mt_imp ho h) rfl
      cases zs with
      | nil =>
        cases es with
        | cons e1 r1 => simp [chkL] at h5
        | nil => exact PE.of (pe_bm0 m.pa m.slot m.ty hr q1 (sup_base h1) h2) fun σ H Q h => LE.imp h fun x H1 q => ⟨q.1, la_nil q.2⟩
      | cons z zs =>
        have hs := chkL_star (env := X.env) h5
        cases es with
        | nil => simp [chkL] at h5
        | cons e1 r1 =>
          have h5' := h5
          simp only [chkL, Bool.and_eq_true, Bool.not_eq_true'] at h5'
          refine pe_bm m.pa m.slot m.ty hr q1 q2 (sup_base h1) ?_ h2 (star_cons h5'.1) (backTo_any (chkL_star h5'.2.2))
          rw [star_all hs]
          simp only [keywordEach, backToKw, List.map_nil, List.all_nil, Bool.true_and, List.length_nil, List.isEmpty_nil, if_true, Nat.add_zero, decide_eq_true_eq]
          exact Nat.lt_trans h3 (by decide)
    · cases h
  | .callv tab o es, X, c, k, a, W, A, tk, h, nd => by
    simp only [chkE] at h
    split at h
    · rename_i f z zs pos
      simp only [Bool.and_eq_true] at h
      obtain ⟨h1, h2, h3, h4⟩ := h
      cases es with
      | nil => simp [chkL] at h4
      | cons e1 r1 =>
        have h4' := h4
        simp only [chkL, Bool.and_eq_true, Bool.not_eq_true'] at h4'
        refine tr3_plain (q_callv (fun x sp hx => ?_) A.gu (A.room h1) tk (sE o A tk h3 nd.2.1).1 (sL _ A tk h4 nd.2.2) ?_ (star_cons h4'.1) (backTo_any (chkL_star h4'.2.2))) rfl
        · obtain ⟨f, fd, ps, j, hj, F, hm, hk, hb, hg⟩ := TabIn.at_ nd.1 x sp hx
          exact ⟨f, fd, ps, j, hj, F, hg, hk, hb⟩
        · cases f <;> first | (intro _; rfl) | cases h2
    · cases h
  | .mk C e, X, c, k, a, W, A, tk, h, nd => by
    simp only [chkE] at h
    split at h
    · simp only [Bool.and_eq_true, decide_eq_true_eq, Bool.not_eq_true'] at h
      obtain ⟨h1, rfl, ⟨h2, h3⟩, h4, h5⟩ := h
      obtain ⟨⟨a, n1, n2, n3, n4, n5, n6⟩, n7⟩ := nd
      exact tr3_plain (q_mk (glB_ok A h2) n2 n1 n3 n4 n5 n6 (nmB_ok h3).1 (sE e A tk h5 n7).1 (star_cons h4)) rfl
    · cases h
  | .mkAt C e, X, c, k, a, W, A, tk, h, nd => by
    simp only [chkE] at h
    split at h
    · simp only [Bool.and_eq_true, decide_eq_true_eq, Bool.not_eq_true'] at h
      obtain ⟨h1, rfl, ⟨h2, h3⟩, h4, h5⟩ := h
      obtain ⟨⟨hk, n1⟩, n7⟩ := nd
      obtain ⟨k, rfl⟩ : ∃ j, k = j + 2 := ⟨k - 2, by omega⟩
      exact tr3_plain (q_mkAt (A.room h1) (glB_ok A h2) n1 tk (nmB_ok h3).1 (sE e A tk h5 n7).1 (star_cons h4)) rfl
    · cases h
  | .atf xs e, X, c, k, a, W, A, tk, h, nd => by
    simp only [chkE] at h
    split at h
    · simp only [Bool.and_eq_true, decide_eq_true_eq, Bool.not_eq_true', List.all_eq_true] at h
      obtain ⟨rfl, h2, h3, h4⟩ := h
      exact tr3_plain (q_at (A.ex.sub fun x hx => List.contains_iff_mem.mp (h3 x hx)) (sE e A tk h4 nd).1 (sup_base h2)) rfl
    · cases h
  | .dis i b, X, c, k, a, W, A, tk, h, nd => by
    simp only [chkE] at h
    split at h
    · simp only [Bool.and_eq_true, decide_eq_true_eq, beq_iff_eq] at h
      obtain ⟨h1, h2, h3, rfl⟩ := h
      exact tr3_plain (q_dis (pe_var (by rw [A.hN]; exact h1) (by rw [A.sc]; exact visB_ok h2) (nmB_ok h3).1 (nmB_ok h3).2) pe_bl) rfl
    · cases h
  | .dnK, X, c, k, a, W, A, tk, h, nd => by
    simp only [chkE] at h
    split at h
    · exact tr3_plain q_dnK rfl
    · cases h
  | .dnT, X, c, k, a, W, A, tk, h, nd => by
    simp only [chkE] at h
    split at h
    · exact tr3_plain q_dnT rfl
    · cases h
  | .cmp3 o1 o2 o3 x y z u, X, c, k, a, W, A, tk, h, nd => by
    simp only [chkE] at h
    split at h
    · rename_i l p q t m r v pos
      simp only [Bool.and_eq_true, decide_eq_true_eq, Bool.not_eq_true'] at h
      obtain ⟨rfl, rfl, rfl, h0, h1, h2, h5, h6⟩ := h
      obtain ⟨rr, h3, h4⟩ := o1.ok X A.hu
      obtain ⟨rr', h3', h4'⟩ := o2.ok X A.hu
      obtain ⟨rr'', h3'', h4''⟩ := o3.ok X A.hu
      have q1 := (sE x A tk h1 nd.1).1
      have q2 := (sE y A tk h2 nd.2.1).1
      have q3 := (sE z A tk h5 nd.2.2.1).1
      have q4 := (sE u A tk h6 nd.2.2.2).1
      exact ⟨PE.of (pe_chain3 h3 h3' h3'' q1 q2 q3 q4 h0) fun σ H Q h => q_chain3 (a := l) (b := m) (d := r) (e := v) h4 h4' h4'' h, fun _ => PT.of (pt_chain3 h3 h3' h3'' q1 q2 q3 q4 h0) fun σ H Q h => test_imp (fun σ H Q h => q_chain3 (a := l) (b := m) (d := r) (e := v) h4 h4' h4'' h) h, fun _ ⟨_, _, _, z⟩ => nomatch z⟩
    · cases h
  | .fld C f e, X, c, k, a, W, A, tk, h, nd => by
    simp only [chkE] at h
    split at h
    · simp only [Bool.and_eq_true, decide_eq_true_eq, Bool.not_eq_true'] at h
      obtain ⟨rfl, h2, h3⟩ := h
      obtain ⟨⟨z, n1, n2, n3⟩, n4⟩ := nd
      exact tr3_plain (q_fld n1 n2 n3 (sE e A tk h3 n4).1 (sup_base h2)) rfl
    · cases h
  | .mthd C m sp o es, X, c, k, a, W, A, tk, h, nd => by
    simp only [chkE] at h
    split at h
    · rename_i l y ap zs cp
      simp only [Bool.and_eq_true, decide_eq_true_eq, Bool.not_eq_true'] at h
      obtain ⟨h9, rfl, h1, h2, h3, h4, h5⟩ := h
      obtain ⟨⟨z, f, fd, ps, j, hj, n1, n2, n3, F, hb⟩, n4, n5⟩ := nd
      have q1 := (sE o A tk h4 n4).1
      have q2 := sL es A tk h5 n5
      refine tr3_plain ?_ rfl
      cases zs with
      | nil =>
        cases es with
        | cons e1 r1 => simp [chkL] at h5
        | nil => exact q_meth0 F A.gu ((A.room h9).mono hj) n1 n2 n3 hb tk q1 (sup_base h1) h2
      | cons z zs =>
        have hs := chkL_star (env := X.env) h5
        cases es with
        | nil => simp [chkL] at h5
        | cons e1 r1 =>
          have h5' := h5
          simp only [chkL, Bool.and_eq_true, Bool.not_eq_true'] at h5'
          refine q_meth F A.gu ((A.room h9).mono hj) n1 n2 n3 hb tk q1 q2 (sup_base h1) ?_ h2 (star_cons h5'.1) (backTo_any (chkL_star h5'.2.2))
          unfold methodCallForm
          rw [star_all hs]
          simp only [keywordEach, backToKw, List.map_nil, List.all_nil, Bool.true_and, List.length_nil, List.isEmpty_nil, if_true, Nat.add_zero, decide_eq_true_eq]
          exact Nat.lt_trans h3 (by decide)
    · cases h
  | .clm C m sp es, X, c, k, a, W, A, tk, h, nd => by
    simp only [chkE] at h
    split at h
    · rename_i y yp z ap z1 zs cp
      simp only [Bool.and_eq_true, decide_eq_true_eq] at h
      obtain ⟨h9, rfl, rfl, h1, h4, h5, h2, h3⟩ := h
      obtain ⟨⟨c', f, fd, ps, j, hj, hm, U, F, hb⟩, nd2⟩ := nd
      cases es with
      | nil => simp [chkL] at h3
      | cons e1 r1 =>
        have h3' := h3
        simp only [chkL, Bool.and_eq_true, Bool.not_eq_true'] at h3'
        refine tr3_plain (q_clm F A.gu ((A.room h9).mono hj) (glB_ok A h5) hm U hb tk (sL _ A tk h3 nd2) (nmB_ok h2).1 h1 rfl ?_ (star_cons h3'.1) (backTo_any (chkL_star h3'.2.2))) rfl
        unfold methodCallForm
        rw [star_all (chkL_star (env := X.env) h3)]
        simp only [keywordEach, backToKw, List.map_nil, List.all_nil, Bool.true_and, List.length_nil, List.isEmpty_nil, if_true, Nat.add_zero, decide_eq_true_eq, List.length_cons]
        omega
    · cases h
  | .ing neg x ws e, X, c, k, a, W, A, tk, h, nd => by
    simp only [chkE] at h
    split at h
    · rename_i l o y p pos
      simp only [Bool.and_eq_true, decide_eq_true_eq] at h
      obtain ⟨rfl, rfl, h1, h2, h3⟩ := h
      obtain ⟨⟨z, n1, n2⟩, n3⟩ := nd
      have q1 := (sE e A tk h3 n3).1
      have q2 : PE X (.Name y p) (tC (.ref z)) := pe_glob (glB_ok A h1) n1 rfl (nmB_ok h2).1
      have go : ∀ {ta : TD} {op : CmpOp} {r : R2} {σ : L2.St} {H : Hp} {Q : VK}, (∀ (i : Str) H (Q : VK), Q (.bl (neg ^^ ws.contains i)) H → r (.str i) (.ref z) H Q) → LE X.K (WE W) (wIng neg ws ta) σ H Q → tOp r (LE X.K (WE W) ta) (tC (.ref z)) σ H Q := by
        intro ta op r σ H Q hr ⟨B, ρ, g, Q0, W0, rs, w, t, cc, xc⟩
        refine ⟨B, ρ, g, _, W0, rs, w, t, fun r1 g1 v H1 hq rv w1 f1 _ => ?_, xc⟩
        match r1, rv, hq with
        | .v (.str i), rv, hq =>
          cases rv
          exact hr i H1 Q ((cc.after f1).here hq (.bl _) w1)
      have ein' : ∀ (us : List Str) (i : Str), inV (.str i) (us.map V.str) = us.contains i := fun us i => by
        unfold inV
        rw [List.any_map]
        induction us with
        | nil => rfl
        | cons s us ih =>
          rw [List.any_cons, List.contains_cons, ih]
          congr 1
          show decide (s = i) = (i == s)
          by_cases e : s = i
          · subst e; simp
          · rw [decide_eq_false e]
            exact (beq_eq_false_iff_ne.mpr fun z => e z.symm).symm
      have ein := ein' ws
      have efl : (ws.map V.str).all flatV = true := by rw [List.all_map]; exact List.all_eq_true.mpr fun _ _ => rfl
      cases neg with
      | false =>
        have hr : ∀ (i : Str) H (Q : VK), Q (.bl (false ^^ ws.contains i)) H → rIn X.K false (.str i) (.ref z) H Q := fun i H Q q => ⟨z, _, rfl, .inr (n2 H), rfl, efl, by rw [ein]; simpa using q⟩
        exact ⟨PE.of (pe_cmpR op_in_seq q1 q2 rfl) fun σ H Q h => go (op := .In) hr h, fun _ => PT.of (pt_cmpR op_in_seq q1 q2 rfl) fun σ H Q h => test_imp (fun σ H Q h => go (op := .In) hr h) h, fun _ ⟨_, _, _, z⟩ => nomatch z⟩
      | true =>
        have hr : ∀ (i : Str) H (Q : VK), Q (.bl (true ^^ ws.contains i)) H → rIn X.K true (.str i) (.ref z) H Q := fun i H Q q => ⟨z, _, rfl, .inr (n2 H), rfl, efl, by rw [ein]; simpa using q⟩
        exact ⟨PE.of (pe_cmpR op_notIn_seq q1 q2 rfl) fun σ H Q h => go (op := .NotIn) hr h, fun _ => PT.of (pt_cmpR op_notIn_seq q1 q2 rfl) fun σ H Q h => test_imp (fun σ H Q h => go (op := .NotIn) hr h) h, fun _ ⟨_, _, _, z⟩ => nomatch z⟩
    · cases h
  | .new C sp es, X, c, k, a, W, A, tk, h, nd => by
    simp only [chkE] at h
    split at h
    · rename_i y p zs pos
      simp only [Bool.and_eq_true, decide_eq_true_eq] at h
      obtain ⟨h9, rfl, h1, h2, h3⟩ := h
      obtain ⟨⟨z, f, fd, ps, j, hj, n1, hm, M, F, hb⟩, nd2⟩ := nd
      cases es with
      | nil =>
        cases zs with
        | nil => exact tr3_plain (q_new0 M F A.gu ((A.room h9).mono hj) n1 (glB_ok A h1) hm hb tk (nmB_ok h2).1) rfl
        | cons z zs => simp [chkL] at h3
      | cons e1 r1 =>
        obtain ⟨z, zs, rfl⟩ : ∃ z zs', zs = z :: zs' := by
          cases zs with
          | nil => simp [chkL] at h3
          | cons z zs => exact ⟨z, zs, rfl⟩
        have h3' := h3
        simp only [chkL, Bool.and_eq_true, Bool.not_eq_true'] at h3'
        exact tr3_plain (q_new M F A.gu ((A.room h9).mono hj) n1 (glB_ok A h1) hm hb tk (sL _ A tk h3 nd2) (nmB_ok h2).1 (star_cons h3'.1) (backTo_any (chkL_star h3'.2.2))) rfl
    · cases h
  | .lrng l, X, c, k, a, W, A, tk, h, nd => by
    simp only [chkE] at h
    split at h
    · rename_i y p z p2 x q2 q
      simp only [Bool.and_eq_true, decide_eq_true_eq] at h
      obtain ⟨h0, rfl, rfl, h1, h2, h3⟩ := h
      have hs : starEach [x] X.env = [(false, eval x X.env)] := by
        cases l with
        | nil => simp [chkL] at h3
        | cons e r =>
          simp only [chkL, Bool.and_eq_true, Bool.not_eq_true'] at h3
          rw [star_cons h3.1]; rfl
      exact tr3_plain (q_lrng (pe_listRg (A.calm h0) (glB_ok A h1) (A.nb _ (by decide)) (prg_1A (glB_ok A h2) (A.nb _ (by decide)) (sL l A tk h3 nd) hs))) rfl
    · rename_i y p z p2 x w q2 q
      simp only [Bool.and_eq_true, decide_eq_true_eq] at h
      obtain ⟨h0, rfl, rfl, h1, h2, h3⟩ := h
      have hs : starB x = false ∧ starB w = false := by
        cases l with
        | nil => simp [chkL] at h3
        | cons e r =>
          simp only [chkL, Bool.and_eq_true, Bool.not_eq_true'] at h3
          cases r with
          | nil => simp [chkL] at h3
          | cons e2 r =>
            simp only [chkL, Bool.and_eq_true, Bool.not_eq_true'] at h3
            exact ⟨h3.1, h3.2.2.1⟩
      exact tr3_plain (q_lrng (pe_listRg (A.calm h0) (glB_ok A h1) (A.nb _ (by decide)) (prg_2A (glB_ok A h2) (A.nb _ (by decide)) (sL l A tk h3 nd) (by rw [star_cons hs.1, star_cons hs.2]; rfl) (by rw [star_cons hs.2]; rfl)))) rfl
    · cases h
  | .trng l, X, c, k, a, W, A, tk, h, nd => by
    simp only [chkE] at h
    split at h
    · rename_i y p z p2 x q2 q
      simp only [Bool.and_eq_true, decide_eq_true_eq] at h
      obtain ⟨h0, rfl, rfl, h1, h2, h3⟩ := h
      have hs : starEach [x] X.env = [(false, eval x X.env)] := by
        cases l with
        | nil => simp [chkL] at h3
        | cons e r =>
          simp only [chkL, Bool.and_eq_true, Bool.not_eq_true'] at h3
          rw [star_cons h3.1]; rfl
      exact tr3_plain (q_trng (pe_tupRg (A.calm h0) (glB_ok A h1) (A.nb _ (by decide)) (prg_1A (glB_ok A h2) (A.nb _ (by decide)) (sL l A tk h3 nd) hs))) rfl
    · rename_i y p z p2 x w q2 q
      simp only [Bool.and_eq_true, decide_eq_true_eq] at h
      obtain ⟨h0, rfl, rfl, h1, h2, h3⟩ := h
      have hs : starB x = false ∧ starB w = false := by
        cases l with
        | nil => simp [chkL] at h3
        | cons e r =>
          simp only [chkL, Bool.and_eq_true, Bool.not_eq_true'] at h3
          cases r with
          | nil => simp [chkL] at h3
          | cons e2 r =>
            simp only [chkL, Bool.and_eq_true, Bool.not_eq_true'] at h3
            exact ⟨h3.1, h3.2.2.1⟩
      exact tr3_plain (q_trng (pe_tupRg (A.calm h0) (glB_ok A h1) (A.nb _ (by decide)) (prg_2A (glB_ok A h2) (A.nb _ (by decide)) (sL l A tk h3 nd) (by rw [star_cons hs.1, star_cons hs.2]; rfl) (by rw [star_cons hs.2]; rfl)))) rfl
    · cases h
  | .un f x, X, c, k, a, W, A, tk, h, nd => by
    simp only [chkE] at h
    split at h
    · rename_i y hy
      simp only [Bool.and_eq_true, List.all_eq_true, Bool.not_eq_true'] at h
      obtain ⟨h0, h1, h2, h3⟩ := h
      obtain ⟨r, hr, ho⟩ := f.ok X A.hu
      exact tr3_plain (q_un hr (ho hy (fun n hn => ⟨glB_ok A (h1 n hn), A.nb n (f.names_mem n hn)⟩) (star_cons h2) (A.calm h0) (sE x A tk h3 nd).1)) (f.arg_plain hy)
    · cases h
  | .trk x, X, c, k, a, W, A, tk, h, nd => by
    simp only [chkE, Bool.and_eq_true] at h
    exact tr3_plain (q_trk (sE x A tk h.2.2 nd).1) h.1
theorem sL : ∀ (l : Xl) {X : Cx} {c : Cs} {k : Nat} {es : List Expr} {W : L2.WX}, Amb c k X → Takes X W → chkL c l es = true → NdL (wld X) k l → PA X es (LA X.K (WE W) (wL l))
  | .nil, X, c, k, es, W, A, tk, h, nd => by
    cases es with
    | nil => exact q_nil
    | cons _ _ => simp [chkL] at h
  | .cons e r, X, c, k, es, W, A, tk, h, nd => by
    cases es with
    | nil => simp [chkL] at h
    | cons x xs =>
      simp only [chkL, Bool.and_eq_true, Bool.not_eq_true'] at h
      exact q_cons (pa_cons (sE e A tk h.2.1 nd.1).1 (sL r A tk h.2.2 nd.2) (star_cons h.1))
theorem sO : ∀ (o : Xo) {X : Cx} {c : Cs} {k : Nat} {a : Option Expr} {W : L2.WX}, Amb c k X → Takes X W → chkO c o a = true → NdO (wld X) k o → PO X a (LO X.K (WE W) (wO o))
  | .no, X, c, k, a, W, A, tk, h, nd => by
    cases a with
    | none => exact q_noP
    | some _ => simp [chkO] at h
  | .so e, X, c, k, a, W, A, tk, h, nd => by
    cases a with
    | none => simp [chkO] at h
    | some x => exact q_soP (sE e A tk (by simpa only [chkO] using h) nd).1
theorem sB : ∀ (o : Xo) {X : Cx} {c : Cs} {k : Nat} {a : List Expr}, Amb c k X → Takes X (fun _ _ _ _ => False) → chkB c o a = true → NdO (wld X) k o → PTs X a (LT X.K E0s (wB o))
  | .no, X, c, k, a, A, tk, h, nd => by
    cases a with
    | nil => exact ⟨fun pins s σ H Q I q => pts_nil.run pins s σ H Q I (wYes_ok q)⟩
    | cons _ _ => simp [chkB] at h
  | .so e, X, c, k, a, A, tk, h, nd => by
    match a, h with
    | [x], h =>
      simp only [chkB, Bool.and_eq_true] at h
      exact pts_one ((sE e (W := fun _ _ _ _ => False) A tk h.2 nd).2.1 h.1)
    | [], h => simp [chkB] at h
    | _ :: _ :: _, h => simp [chkB] at h
theorem sI : ∀ (it : Xi) {X : Cx} {c : Cs} {k : Nat} {tg a : Expr} {W : L2.WX}, Amb c k X → Takes X W → chkI c it a = true → tupTg it tg = true → NdI (wld X) k it → PI X tg a (LI X.K (WE W) (wI it))
  | .seqL e, X, c, k, tg, a, W, A, tk, h, _, nd => q_seqL (pi_list (sE e A tk h nd).1)
  | .seqT e, X, c, k, tg, a, W, A, tk, h, _, nd => q_seqT (pi_tup (sE e A tk h nd).1)
  | .text e, X, c, k, tg, a, W, A, tk, h, _, nd => q_text (pi_str (sE e A tk h nd).1)
  | .seqA e, X, c, k, tg, a, W, A, tk, h, _, nd => q_seqA (pi_seqA (sE e A tk h nd).1)
  | .enumA l, X, c, k, tg, a, W, A, tk, h, ht, nd => by
    simp only [chkI] at h
    split at h
    · rename_i y p x pos
      simp only [Bool.and_eq_true, decide_eq_true_eq] at h
      obtain ⟨rfl, h1, h2⟩ := h
      have hs : starEach [x] X.env = [(false, eval x X.env)] := by
        cases l with
        | nil => simp [chkL] at h2
        | cons e r =>
          simp only [chkL, Bool.and_eq_true, Bool.not_eq_true'] at h2
          rw [star_cons h2.1]; rfl
      cases tg with
      | Tuple els kk tp => exact q_enumA (pi_enumA (glB_ok A h1) (A.nb _ (by decide)) (sL l A tk h2 nd) hs)
      | _ => cases ht
    · cases h
  | .zip l, X, c, k, tg, a, W, A, tk, h, ht, nd => by
    simp only [chkI] at h
    split at h
    · rename_i y p x z pos
      simp only [Bool.and_eq_true, decide_eq_true_eq] at h
      obtain ⟨rfl, h1, h2⟩ := h
      have hs : starB x = false ∧ starB z = false := by
        cases l with
        | nil => simp [chkL] at h2
        | cons e r =>
          simp only [chkL, Bool.and_eq_true, Bool.not_eq_true'] at h2
          cases r with
          | nil => simp [chkL] at h2
          | cons e r =>
            simp only [chkL, Bool.and_eq_true, Bool.not_eq_true'] at h2
            exact ⟨h2.1, h2.2.2.1⟩
      cases tg with
      | Tuple els kk tp => exact q_zip (pi_zipB (glB_ok A h1) (A.nb _ (by decide)) (sL l A tk h2 nd) (by rw [star_cons hs.1, star_cons hs.2]) (by rw [star_cons hs.2]; rfl))
      | _ => cases ht
    · cases h
  | .rng1 l, X, c, k, tg, a, W, A, tk, h, _, nd => by
    simp only [chkI] at h
    split at h
    · rename_i y p x pos
      simp only [Bool.and_eq_true, decide_eq_true_eq] at h
      obtain ⟨rfl, h1, h2⟩ := h
      have hs : starEach [x] X.env = [(false, eval x X.env)] := by
        cases l with
        | nil => simp [chkL] at h2
        | cons e r =>
          simp only [chkL, Bool.and_eq_true, Bool.not_eq_true'] at h2
          rw [star_cons h2.1]; rfl
      exact q_rng1 (pi_range1 (glB_ok A h1) (A.nb _ (by decide)) (sL l A tk h2 nd) hs)
    · cases h
  | .enumL l, X, c, k, tg, a, W, A, tk, h, ht, nd => by
    simp only [chkI] at h
    split at h
    · rename_i y p x pos
      simp only [Bool.and_eq_true, decide_eq_true_eq] at h
      obtain ⟨rfl, h1, h2⟩ := h
      have hs : starEach [x] X.env = [(false, eval x X.env)] := by
        cases l with
        | nil => simp [chkL] at h2
        | cons e r =>
          simp only [chkL, Bool.and_eq_true, Bool.not_eq_true'] at h2
          rw [star_cons h2.1]; rfl
      cases tg with
      | Tuple els kk tp => exact q_enumL (pi_enumA (glB_ok A h1) (A.nb _ (by decide)) (sL l A tk h2 nd) hs)
      | _ => cases ht
    · cases h
  | .enumT l, X, c, k, tg, a, W, A, tk, h, ht, nd => by
    simp only [chkI] at h
    split at h
    · rename_i y p x pos
      simp only [Bool.and_eq_true, decide_eq_true_eq] at h
      obtain ⟨rfl, h1, h2⟩ := h
      have hs : starEach [x] X.env = [(false, eval x X.env)] := by
        cases l with
        | nil => simp [chkL] at h2
        | cons e r =>
          simp only [chkL, Bool.and_eq_true, Bool.not_eq_true'] at h2
          rw [star_cons h2.1]; rfl
      cases tg with
      | Tuple els kk tp => exact q_enumT (pi_enumA (glB_ok A h1) (A.nb _ (by decide)) (sL l A tk h2 nd) hs)
      | _ => cases ht
    · cases h
  | .revL l, X, c, k, tg, a, W, A, tk, h, _, nd => by
    simp only [chkI] at h
    split at h
    · rename_i y p x pos
      simp only [Bool.and_eq_true, decide_eq_true_eq] at h
      obtain ⟨rfl, h1, h2⟩ := h
      have hs : starEach [x] X.env = [(false, eval x X.env)] := by
        cases l with
        | nil => simp [chkL] at h2
        | cons e r =>
          simp only [chkL, Bool.and_eq_true, Bool.not_eq_true'] at h2
          rw [star_cons h2.1]; rfl
      exact q_revL (pi_reversed (glB_ok A h1) (A.nb _ (by decide)) (sL l A tk h2 nd) hs)
    · cases h
  | .rngD l, X, c, k, tg, a, W, A, tk, h, _, nd => by
    simp only [chkI] at h
    split at h
    · rename_i y p x z u pos
      simp only [Bool.and_eq_true, decide_eq_true_eq] at h
      obtain ⟨rfl, h1, h2⟩ := h
      have hs : starB x = false ∧ starB z = false ∧ starB u = false := by
        cases l with
        | nil => simp [chkL] at h2
        | cons e r =>
          simp only [chkL, Bool.and_eq_true, Bool.not_eq_true'] at h2
          cases r with
          | nil => simp [chkL] at h2
          | cons e r =>
            simp only [chkL, Bool.and_eq_true, Bool.not_eq_true'] at h2
            cases r with
            | nil => simp [chkL] at h2
            | cons e r =>
              simp only [chkL, Bool.and_eq_true, Bool.not_eq_true'] at h2
              exact ⟨h2.1, h2.2.2.1, h2.2.2.2.2.1⟩
      exact q_rngD (pi_range3 (glB_ok A h1) (A.nb _ (by decide)) (sL l A tk h2 nd) (by rw [star_cons hs.1]) (by rw [star_cons hs.2.1, star_cons hs.2.2]; rfl))
    · cases h
  | .rng2 l, X, c, k, tg, a, W, A, tk, h, _, nd => by
    simp only [chkI] at h
    split at h
    · rename_i y p x z pos
      simp only [Bool.and_eq_true, decide_eq_true_eq] at h
      obtain ⟨rfl, h1, h2⟩ := h
      have hs : starB x = false ∧ starB z = false := by
        cases l with
        | nil => simp [chkL] at h2
        | cons e r =>
          simp only [chkL, Bool.and_eq_true, Bool.not_eq_true'] at h2
          cases r with
          | nil => simp [chkL] at h2
          | cons e r =>
            simp only [chkL, Bool.and_eq_true, Bool.not_eq_true'] at h2
            exact ⟨h2.1, h2.2.2.1⟩
      exact q_rng2 (pi_range2 (glB_ok A h1) (A.nb _ (by decide)) (sL l A tk h2 nd) (by rw [star_cons hs.1, star_cons hs.2]; rfl) (by rw [star_cons hs.2]; rfl))
    · cases h
end
end G3
/-! G3: statements of the small syntax -/
namespace G3
open PySem L2

mutual
inductive Sm where
  | asg (tg : Tg) (e : Xp) | put (o i e : Xp) | dput (o i e : Xp) | dputM (o i e : Xp) | par (i j : Nat) (es : Xl) | par3 (i j l : Nat) (es : Xl) | expr (e : Xp) | ifs (c : Xp) (a b : Sl) | for_ (it : Xi) (tg : Tg) (b : Sl) | whl (c : Xp) (b : Sl) | ret (e : Xp) | retN | ct
  | try_ (xs : List Str) (C : Str) (i : Option Nat) (b s : Sl) | raise (C : Str) | raiseAt (C : Str) (e : Xp) | sfld (C f : Str) (o e : Xp) | sfld2 (C f f' : Str) (o o' e : Xp)
  /-- what the walk never comes to -/
  | dead
inductive Sl where
  | nil | cons (s : Sm) (r : Sl)
  /-- the list in a slot will not change any more (no row of the text) -/
  | frz (i : Nat) (r : Sl)
  /-- a part with a name of its own -/
  | part (b : Sl)
end
theorem wHid_ex : ∃ f : TSD → TSD, f = id := ⟨id, rfl⟩
/-- nothing but a veil: what stands behind it is not looked at -/
noncomputable def wHid : TSD → TSD := Classical.choose wHid_ex
theorem wHid_eq (t : TSD) : wHid t = t := by
  unfold wHid
  rw [Classical.choose_spec wHid_ex]; rfl
/-- a, b = e, f: two names, stored when both are there -/
def wPar (i j : Nat) (tr : TAD) : TSD := fun D ρ g => tr ρ g (fun ds g1 => match ds with | [d, e] => D.nx ((ρ.set i (some d)).set j (some e)) g1 | _ => False) (fun x g1 => D.ex x ρ g1)
/-- a, b, c = e, f, h: three names -/
def wPar3 (i j l : Nat) (tr : TAD) : TSD := fun D ρ g => tr ρ g (fun ds g1 => match ds with | [d, e, f] => D.nx (((ρ.set i (some d)).set j (some e)).set l (some f)) g1 | _ => False) (fun x g1 => D.ex x ρ g1)
def wDead : TSD := fun _ _ _ => False
mutual
noncomputable def wS : Sm → TSD
  | .dead => wDead
  | .asg tg e => wAsg tg (wE e)
  | .put o i e => wPut (wE o) (wE i) (wE e)
  | .dput o i e => wDput (wE o) (wE i) (wE e)
  | .dputM o i e => wDputM (wE o) (wE i) (wE e)
  | .par i j es => wPar i j (wL es)
  | .par3 i j l es => wPar3 i j l (wL es)
  | .expr e => wDrop (wE e)
  | .ifs c a b => wIf (wTest (wE c)) (wSs a) (wSs b)
  | .for_ it tg b => wFor (wI it) tg (wSs b)
  | .whl c b => wWhl (wTest (wE c)) (wSs b)
  | .ret e => wRet (wE e)
  | .retN => wRetN
  | .ct => wCt
  | .try_ xs C i b s => wTry xs C i (wSs b) (wSs s)
  | .raise C => wRaise C
  | .raiseAt C e => wRaiseAt C (wE e)
  | .sfld C f o e => wSfld C f (wE o) (wE e)
  | .sfld2 C f f' o o' e => wSfld2 C f f' (wE o) (wE o') (wE e)
noncomputable def wSs : Sl → TSD
  | .nil => wNx
  | .cons s r => wSq (wS s) (wSs r)
  | .frz i r => wFrz i (wSs r)
  | .part b => wHid (wSs b)
end
def tupB : Expr → Bool
  | .Tuple _ _ _ => true
  | _ => false
def compB : Expr → Bool
  | .ListComp _ _ _ _ | .SetComp _ _ _ _ | .DictComp _ _ _ _ _ => true
  | _ => false
/-- a display of a tuple, not just of constants -/
def dispB : Expr → Bool
  | .Tuple vs _ _ => !(vs.all (foldedForSure 8))
  | _ => false
/-- some name of the target is no plain local: a tuple is made and taken apart -/
def cellT (sc : Scope) : Expr → Bool
  | .Tuple ts _ _ => ts.any fun | .Name x _ => !(lclB sc x) | _ => false
  | _ => false
def swB (sc : Scope) (t v : Expr) : Bool := match v with
  | .ListComp _ _ s _ => (match t with
    | .Name x p => sc.kind == .function && sc.names.lookup x == some .local && p.line == v.pos.line && !(s.names.any fun (n, k) => n == x && (k == .local || k == .cell))
    | _ => false)
  | _ => false
mutual
def chkS : Cs → Sm → Stmt → Bool
  | _, .dead, _ => true
  | c, .asg tg e, s => match s with
    | .Assign [t] v _ => chkTg c tg t && (chkE c e v && (match t with
      | .Name x _ => (match v with
        | .ListComp _ _ _ _ => c.calm && (!(swB c.sc t v) || lclB c.sc x)
        | _ => !(compB v))
      | _ => (tupB t || !(compB v)) && (!(dispB v) || cellT c.sc t)))
    | _ => false
  | c, .put o i e, s => match s with | .Assign [.Subscript l r _] v _ => !(compB v) && ((!(slB r) && chkE c o l) && (chkE c i r && chkE c e v)) | _ => false
  | c, .dput o i e, s => match s with | .Assign [.Subscript l r _] v _ => !(compB v) && ((!(slB r) && chkE c o l) && (chkE c i r && chkE c e v)) | _ => false
  | c, .dputM o i e, s => match s with | .Assign [.Subscript l r _] v _ => !(compB v) && ((!(slB r) && chkE c o l) && (chkE c i r && chkE c e v)) | _ => false
  | c, .par i j es, s => match s with
    | .Assign [.Tuple [.Name x px, .Name y py] _ _] (.Tuple [a, b] _ _) _ => c.calm && ((decide (c.N[i]? = some x) && (decide (c.N[j]? = some y) && (!(i == j) && (!(x == y) && (lclB c.sc x && lclB c.sc y))))) &&
        ((px.line == py.line && (!([a, b].all (foldedForSure 8)) && !([a, b].all (constantsAlone 8)))) && (!(starB a) && (!(starB b) && chkL c es [a, b]))))
    | _ => false
  | c, .par3 i j l es, s => match s with
    | .Assign [.Tuple [.Name x px, .Name y py, .Name z pz] _ _] (.Tuple [a, b, d] _ _) _ => c.calm && ((decide (c.N[i]? = some x) && (decide (c.N[j]? = some y) && (decide (c.N[l]? = some z) && ((!(i == j) && (!(i == l) && !(j == l))) && ((!(x == y) && (!(x == z) && !(y == z))) && (lclB c.sc x && (lclB c.sc y && lclB c.sc z))))))) &&
        (((px.line == py.line) && ((px.line == pz.line) && (!([a, b, d].all (foldedForSure 8)) && !([a, b, d].all (constantsAlone 8))))) && (!(starB a) && (!(starB b) && (!(starB d) && chkL c es [a, b, d])))))
    | _ => false
  | c, .expr e, s => match s with | .Expr v _ => !(compB v) && chkE c e v | _ => false
  | c, .ifs q a b, s => match s with | .If t x y _ => tst q && (chkE c q t && (chkSs c a x && chkSs c b y)) | _ => false
  | c, .for_ it tg b, s => match s with | .For t i body [] _ => c.calm && ((!(setB i) && tupTg it t) && (chkI c it i && (chkTg c tg t && chkSs c b body))) | _ => false
  | c, .whl q b, s => match s with | .While t body [] _ => tst q && (chkE c q t && chkSs c b body) | _ => false
  | c, .ret e, s => match s with | .Return (some v) _ => chkE c e v | _ => false
  | _, .retN, s => match s with | .Return none _ => true | _ => false
  | _, .ct, s => match s with | .Continue _ => true | _ => false
  | c, .raise C, s => match s with | .Raise (some (.Call (.Name x _) [.Constant (.str _) _ _] [] _)) none _ => c.calm && (decide (x = C) && (glB c.sc C && nmB C)) | _ => false
  | c, .raiseAt C e, s => match s with | .Raise (some (.Call (.Name x _) [z] [] _)) none _ => c.calm && (decide (x = C) && ((glB c.sc C && nmB C) && (!(starB z) && chkE c e z))) | _ => false
  | c, .sfld _ f o e, s => match s with | .Assign [.Attribute l y _] v _ => decide (y = f) && (!(compB v) && (chkE c o l && chkE c e v)) | _ => false
  | c, .sfld2 _ f f' o o' e, s => match s with | .Assign [.Tuple [.Attribute l y _, .Attribute l' y' _] _ _] v _ => c.calm && (decide (y = f) && (decide (y' = f') && ((!(compB v) && !(dispB v)) && (chkE c o l && (chkE c o' l' && chkE c e v))))) | _ => false
  | c, .try_ xs C i b t, s => match s with
    | .Try body [.ExceptHandler (some (.Name x _)) n (one :: suite) _] [] [] _ => c.calm && ((decide (x = C) && (glB c.sc C && nmB C)) && (((upN :: xs).contains C && xs.all (fun y => c.ex.contains y)) && ((chkSs c b body && chkSs { c with calm := false } t (one :: suite)) &&
        (match i, n with
        | some i, some n => decide (c.N[i]? = some n) && lclB c.sc n
        | none, none => true
        | _, _ => false))))
    | _ => false
def chkSs : Cs → Sl → List Stmt → Bool
  | _, .nil, ss => ss.isEmpty
  | c, .cons s r, ss => match ss with | x :: xs => chkS c s x && chkSs c r xs | _ => false
  | c, .frz _ r, ss => chkSs c r ss
  | c, .part b, ss => chkSs c b ss
end
/-- a class by its name -/
def ClIn (u : Wld) (C : Str) : Prop := ∃ a, gaK u.K C = some a ∧ u.mg C = some (.ref a)
mutual
def NdS (u : Wld) (k : Nat) : Sm → Prop
  | .asg _ e | .expr e | .ret e => NdE u k e
  | .par _ _ es | .par3 _ _ _ es => NdL u k es
  | .put o i e | .dput o i e | .dputM o i e => NdE u k o ∧ NdE u k i ∧ NdE u k e
  | .ifs c a b => NdE u k c ∧ NdSs u k a ∧ NdSs u k b
  | .for_ it _ b => NdI u k it ∧ NdSs u k b
  | .whl c b => NdE u k c ∧ NdSs u k b
  | .retN | .ct | .dead => True
  | .try_ _ C _ b s => ClIn u C ∧ NdSs u k b ∧ NdSs u k s
  | .raise C => RzIn u C
  | .raiseAt C e => AtIn u k C ∧ NdE u k e
  | .sfld C f o e => FlIn u C f ∧ NdE u k o ∧ NdE u k e
  | .sfld2 C f f' o o' e => (FlIn u C f ∧ FlIn u C f') ∧ NdE u k o ∧ NdE u k o' ∧ NdE u k e
def NdSs (u : Wld) (k : Nat) : Sl → Prop
  | .nil => True
  | .cons s r => NdS u k s ∧ NdSs u k r
  | .frz _ r => NdSs u k r
  | .part b => NdSs u k b
end
structure AmbS (c : Cs) (k : Nat) (X : Cx) : Prop extends Amb c k X where
  po : PassesOwn (model X.prog X.w) X.A X.env X.xe
  kind : c.sc.kind = .function
  stk : X.stack = X.env :: X.outer ∧ X.env.frame = some X.env.locals

theorem sw_no {v t : Expr} {l : Nat} {env : PySem.Env} (h : compB v = false) : swapsWith v (some t) l env = pure false := by
  cases v <;> first | rfl | cases h
theorem sw_tup {v t : Expr} {l : Nat} {env : PySem.Env} (h : tupB t = true ∨ compB v = false) : swapsWith v (some t) l env = pure false := by
  rcases h with h | h
  · cases t <;> first | (cases h; done) | skip
    cases v <;> rfl
  · exact sw_no h
theorem sw_no0 {v : Expr} {l : Nat} {env : PySem.Env} (h : compB v = false) : swapsWith v none l env = pure false := by
  cases v <;> first | rfl | cases h
theorem sw_lc {elt : Expr} {gs : List Comprehension} {s : Scope} {p p' : Pos} {x : Str} {l : Nat} {env : PySem.Env} (hk : env.scope.kind = .function) :
    swapsWith (.ListComp elt gs s p) (some (.Name x p')) l env = pure (swB env.scope (.Name x p') (.ListComp elt gs s p)) := by
  have e : env.blockKind = .function := by unfold PySem.Env.blockKind; rw [hk]; rfl
  unfold swB
  show pure (env.blockKind == .function && env.kindOf x == some .local && p'.line == (Expr.ListComp elt gs s p).pos.line && !(s.names.any fun (n, k) => n == x && (k == .local || k == .cell))) = _
  rw [e, hk]
  rfl
theorem ss_no {v t : Expr} {env : PySem.Env} (h : dispB v = false) : swappedStores [t] v env = pure none := by
  unfold swappedStores
  split
  · rename_i ts vs heq
    have key : vs.all (foldedForSure 8) = true := by
      split at heq
      · cases heq
        simpa [dispB] using h
      · cases heq
        simpa [dispB] using h
      · cases heq
    simp only [key, if_true]
    split
    · rfl
    · split
      · rfl
      · split
        · rfl
        · rfl
  · rfl
theorem filterMap_lt {α β : Type} (f : α → Option β) : ∀ {l : List α}, (∃ x ∈ l, f x = none) → (l.filterMap f).length < l.length
  | [], h => by obtain ⟨x, hx, _⟩ := h; cases hx
  | a :: l, h => by
    have hle := List.length_filterMap_le f l
    cases e : f a with
    | none => rw [List.filterMap_cons_none e, List.length_cons]; omega
    | some b =>
      rw [List.filterMap_cons_some e, List.length_cons, List.length_cons]
      obtain ⟨x, hx, hn⟩ := h
      rcases List.mem_cons.mp hx with rfl | hx
      · rw [e] at hn; cases hn
      · have := filterMap_lt f ⟨x, hx, hn⟩
        omega
theorem ss_cell {v t : Expr} {env : PySem.Env} (h : cellT env.scope t = true) : swappedStores [t] v env = pure none := by
  cases t with
  | Tuple ts kk pp =>
    have h : (ts.any fun | .Name x _ => !(lclB env.scope x) | _ => false) = true := h
    obtain ⟨e, he, hn⟩ := List.any_eq_true.mp h
    obtain ⟨x, px, rfl, hx⟩ : ∃ x px, e = .Name x px ∧ lclB env.scope x = false := by
      cases e with
      | Name x px => exact ⟨x, px, rfl, by simpa using hn⟩
      | _ => cases hn
    have hk : (env.kindOf x == some .local) = false := by
      have : env.kindOf x = env.scope.names.lookup x := rfl
      rw [this]
      unfold lclB at hx
      cases e : env.scope.names.lookup x with
      | none => rfl
      | some k =>
        rw [e] at hx
        cases k <;> first | rfl | cases hx
    unfold swappedStores
    split
    · rename_i ts' vs heq
      have ets : ts' = ts := by
        split at heq
        · have q := ‹[Expr.Tuple ts kk pp] = [Expr.Tuple _ _ _]›
          cases q; cases heq; rfl
        · have q := ‹[Expr.Tuple ts kk pp] = [Expr.List _ _]›
          cases q
        · cases heq
      subst ets
      split
      · rfl
      · split
        · rfl
        · have hl := fun line : Nat => filterMap_lt (fun (e : Expr) => match e with | .Name id pos => if (env.kindOf id == some .local && pos.line == line) = true then some id else none | _ => none) (l := ts') ⟨_, he, by show (if (env.kindOf x == some .local && px.line == line) = true then some x else none) = none; rw [hk]; rfl⟩
          have hl := hl ((ts'.head?.map (·.pos.line)).getD 0)
          rw [if_pos]
          simp only [Bool.or_eq_true, bne_iff_ne, ne_eq]
          exact .inl (Nat.ne_of_lt hl)
    · rfl
  | _ => cases h
theorem ss_two {x y : Str} {px py pt pt2 : Pos} {kt k2 : Nat} {a b : Expr} {env : PySem.Env} (hk : env.scope.kind = .function) (hx : env.scope.names.lookup x = some .local) (hy : env.scope.names.lookup y = some .local) (hl : (px.line == py.line) = true)
    (hne : (x == y) = false) (ha : starB a = false) (hb : starB b = false) (hf : [a, b].all (foldedForSure 8) = false) (hc : [a, b].all (constantsAlone 8) = false) :
    swappedStores [.Tuple [.Name x px, .Name y py] kt pt] (.Tuple [a, b] k2 pt2) env = pure (some [x, y]) := by
  have e : env.blockKind = .function := by unfold PySem.Env.blockKind; rw [hk]; rfl
  have kx : env.kindOf x = some .local := hx
  have ky : env.kindOf y = some .local := hy
  have l2 : (py.line == px.line) = true := by rw [eq_of_beq hl]; simp
  have ne2 : (y == x) = false := by rw [Bool.beq_comm]; exact hne
  have ne : x ≠ y := fun z => by rw [z] at hne; simp at hne
  unfold swappedStores
  simp only [List.length_cons, List.length_nil, e, List.any_cons, List.any_nil, List.head?_cons, Option.map_some, Option.getD_some, List.filterMap_cons, List.filterMap_nil, kx, ky, l2, hf, hc]
  simp [List.eraseDups_cons, ne2, ne, Expr.pos, l2, eq_of_beq hl]
  rintro (h | h)
  · cases a <;> first | (cases h; done) | cases ha
  · cases b <;> first | (cases h; done) | cases hb
theorem ss_three {x y z : Str} {px py pz pt pt2 : Pos} {kt k2 : Nat} {a b d : Expr} {env : PySem.Env} (hk : env.scope.kind = .function) (hx : env.scope.names.lookup x = some .local) (hy : env.scope.names.lookup y = some .local) (hz : env.scope.names.lookup z = some .local) (hl : (px.line == py.line) = true) (hl2 : (px.line == pz.line) = true)
    (hne : (x == y) = false) (hne2 : (x == z) = false) (hne3 : (y == z) = false) (ha : starB a = false) (hb : starB b = false) (hd : starB d = false) (hf : [a, b, d].all (foldedForSure 8) = false) (hc : [a, b, d].all (constantsAlone 8) = false) :
    swappedStores [.Tuple [.Name x px, .Name y py, .Name z pz] kt pt] (.Tuple [a, b, d] k2 pt2) env = pure (some [x, y, z]) := by
  have e : env.blockKind = .function := by unfold PySem.Env.blockKind; rw [hk]; rfl
  have kx : env.kindOf x = some .local := hx
  have ky : env.kindOf y = some .local := hy
  have kz : env.kindOf z = some .local := hz
  have l2 : (py.line == px.line) = true := by rw [eq_of_beq hl]; simp
  have l3 : (pz.line == px.line) = true := by rw [eq_of_beq hl2]; simp
  have ne1 : (y == x) = false := by rw [Bool.beq_comm]; exact hne
  have ne2 : (z == x) = false := by rw [Bool.beq_comm]; exact hne2
  have ne3 : (z == y) = false := by rw [Bool.beq_comm]; exact hne3
  have n1 : x ≠ y := fun q => by rw [q] at hne; simp at hne
  have n2 : x ≠ z := fun q => by rw [q] at hne2; simp at hne2
  have n3 : y ≠ z := fun q => by rw [q] at hne3; simp at hne3
  unfold swappedStores
  simp only [List.length_cons, List.length_nil, e, List.any_cons, List.any_nil, List.head?_cons, Option.map_some, Option.getD_some, List.filterMap_cons, List.filterMap_nil, kx, ky, kz, l2, l3, hf, hc]
  have l4 : pz.line = py.line := (eq_of_beq hl2).symm.trans (eq_of_beq hl)
  simp [List.eraseDups_cons, ne1, ne2, ne3, n1, n2, n3, Expr.pos, l2, l3, eq_of_beq hl, l4, List.filter]
  rintro (h | h | h)
  · cases a <;> first | (cases h; done) | cases ha
  · cases b <;> first | (cases h; done) | cases hb
  · cases d <;> first | (cases h; done) | cases hd
section
variable {X : Cx} {c : Cs} {k : Nat} {W : L2.WX}
/-- name = [..] where the model stores within the comprehension's frame -/
theorem s_lc (A : AmbS c k X) (hcm : c.calm = true) (tk : Takes X W) {own : List (Str × Nat)} {it : Xi} {tg : Tg} {t : Xo} {e : Xp} {te : TD} (hte : ∀ σ H Q, LE X.K (WE W) te σ H Q → LE X.K (WE W) (wE (.comp own it tg t e)) σ H Q)
    {elt : Expr} {gs : List Comprehension} {s : Scope} {p p' pos : Pos} {x : Str} {i : Nat} (hn : chkNm c i (.Name x p') = true)
    (hl : lclB c.sc x = true) (hs : swB c.sc (.Name x p') (.ListComp elt gs s p) = true) (h : chkE c (.comp own it tg t e) (.ListComp elt gs s p) = true) (nd : NdE (wld X) k (.comp own it tg t e)) :
    PS X (.Assign [.Name x p'] (.ListComp elt gs s p) pos) (LS X.K W (wAsg (.nm i) te)) := by
  have hk : X.env.scope.kind = .function := by rw [A.sc]; exact A.kind
  have hsw := sw_lc (elt := elt) (gs := gs) (s := s) (p := p) (p' := p') (x := x) (l := pos.line) hk
  rw [A.sc, hs] at hsw
  have hN : X.N[i]? = some x := by
    simp only [chkNm, Bool.and_eq_true, decide_eq_true_eq] at hn
    rw [A.hN]; exact hn.1
  simp only [chkE] at h
  split at h
  · rename_i elt tge iter ifs as scope pos e0
    cases e0
    simp only [Bool.and_eq_true, decide_eq_true_eq, Bool.not_eq_true'] at h
    obtain ⟨h9, rfl, h1, h2, h3, ⟨h4, h8⟩, h5, h6, h7⟩ := h
    have A' := A.toAmb
    refine s_asg (tg := .nm i) (te' := tLc (LI X.K (WE W) (wI it)) (gTg X.K tg) (LT X.K E0s (wB t)) (LE X.K E0s (wE e)) (own.map (·.2))) (fun σ H Q q => comp_imp (own := own.map (·.2)) (fun j hj => ?_) (hte σ H Q q)) (ps_setLc (A.calm hcm) A.nd hN (by rw [A.sc]; exact lclB_ok hl) hsw (sI it A' tk h3 h8 nd.1) (own := own) (by rw [A.hN, A.sc]; exact blkOk_by h1)
      (fun s1 H C cl fp => pg_tg (blk_amb A' s1 H s cl C fp) h5) (fun s1 H C cl fp => sB t (blk_amb A' s1 H s cl C fp) takes0 h6 nd.2.1) (fun s1 H C cl fp => (sE e (W := fun _ _ _ _ => False) (blk_amb A' s1 H s cl C fp) takes0 h7 nd.2.2).1) (set_same h4))
    exact List.contains_iff_mem.mp (List.all_eq_true.mp h2 j hj)
  · cases h
theorem comp_of {c : Cs} {e : Xp} {elt : Expr} {gs : List Comprehension} {s : Scope} {p : Pos} (h : chkE c e (.ListComp elt gs s p) = true) :
    (∃ own it tg t e', e = .comp own it tg t e') ∨ ∃ own it tg t e', e = .trk (.comp own it tg t e') := by
  cases e with
  | comp own it tg t e' => exact .inl ⟨_, _, _, _, _, rfl⟩
  | trk x =>
    refine .inr ?_
    simp only [chkE, Bool.and_eq_true] at h
    cases x with
    | comp own it tg t e' => exact ⟨_, _, _, _, _, rfl⟩
    | trk x => simp [ntrk] at h
    | cst d => cases d <;> simp [chkE] at h
    | un f x => cases f <;> simp [chkE, Ufn.arg, argS, argN, argR, argR2] at h
    | _ => simp [chkE] at h
  | cst d => cases d <;> simp [chkE] at h
  | un f x => cases f <;> simp [chkE, Ufn.arg, argS, argN, argR, argR2] at h
  | _ => simp [chkE] at h
end
mutual
theorem sS : ∀ (m : Sm) {X : Cx} {c : Cs} {k : Nat} {s : Stmt} {W : L2.WX}, AmbS c k X → Takes X W → chkS c m s = true → NdS (wld X) k m → PS X s (LS X.K W (wS m))
  | .dead, X, c, k, s, W, A, tk, h, nd => ⟨fun pins s σ H D I q => by obtain ⟨B, ρ, g, D0, rs, w, q, _⟩ := q; exact q.elim⟩
  | .asg tg e, X, c, k, s, W, A, tk, h, nd => by
    simp only [chkS] at h
    split at h
    · rename_i t v pos
      simp only [Bool.and_eq_true] at h
      obtain ⟨h1, h2, h3⟩ := h
      have q := (sE e A.toAmb tk h2 nd).1
      split at h3
      · rename_i x p'
        cases tg with
        | tp is => simp [chkTg] at h1
        | tl is => simp [chkTg] at h1
        | nm i =>
          have g := h1
          simp only [chkTg, chkNm, Bool.and_eq_true, Bool.or_eq_true, decide_eq_true_eq] at g
          have go : swapsWith v (some (.Name x p')) pos.line X.env = pure false → PS X (.Assign [.Name x p'] v pos) (LS X.K W (wAsg (.nm i) (wE e))) := fun hs =>
            s_asg (te' := LE X.K (WE W) (wE e)) (fun _ _ _ h => h) (ps_set A.nd (by rw [A.hN]; exact g.1) (by rw [A.sc]; exact locB_ok g.2.1) q hs (g.2.2.imp (fun z => A.fn x z) fun z => by rw [A.sc]; exact lclB_ok z))
          split at h3
          · rename_i elt gs sc p
            have hk : X.env.scope.kind = .function := by rw [A.sc]; exact A.kind
            cases hs : swB c.sc (.Name x p') (.ListComp elt gs sc p) with
            | false =>
              refine go ?_
              rw [sw_lc hk, A.sc, hs]
            | true =>
              rw [hs, Bool.and_eq_true] at h3
              have hl : lclB c.sc x = true := by simpa using h3.2
              rcases comp_of h2 with ⟨own, it, tg, t, e', rfl⟩ | ⟨own, it, tg, t, e', rfl⟩
              · exact s_lc A h3.1 tk (fun _ _ _ h => h) h1 hl hs h2 nd
              · simp only [chkE, Bool.and_eq_true] at h2
                have h2' : chkE c (.comp own it tg t e') (.ListComp elt gs sc p) = true := by simp only [chkE]; exact h2.2.2
                exact s_lc A h3.1 tk (fun σ H Q q => trk_imp q) h1 hl hs h2' nd
          · exact go (sw_no (by simpa using h3))
      · rename_i hn
        simp only [Bool.and_eq_true, Bool.not_eq_true', Bool.or_eq_true] at h3
        have hst : ∀ a b, t ≠ .Starred a b := by
          intro a b z
          subst z
          cases tg <;> simp [chkTg, chkNm] at h1
        have hss : swappedStores [t] v X.env = pure none := by
          rcases h3.2 with h4 | h4
          · exact ss_no h4
          · exact ss_cell (by rw [A.sc]; exact h4)
        refine s_asg (te' := LE X.K (WE W) (wE e)) (fun _ _ _ h => h) (ps_asg q (pg_tg A.toAmb h1) (sw_tup h3.1) hss ?_)
        cases t <;> first | rfl | exact absurd rfl (hst _ _)
    · cases h
  | .put o i e, X, c, k, s, W, A, tk, h, nd => by
    simp only [chkS] at h
    split at h
    · rename_i l r p v pos
      simp only [Bool.and_eq_true, Bool.not_eq_true'] at h
      obtain ⟨h0, ⟨hs, h1⟩, h2, h3⟩ := h
      exact PS.of (ps_asg (sE e A.toAmb tk h3 nd.2.2).1 (pg_sub (sE o A.toAmb tk h1 nd.1).1 (sE i A.toAmb tk h2 nd.2.1).1 set_list (by intro z; cases r <;> first | rfl | cases hs)) (by show swapsWith v (some (.Subscript l r p)) pos.line X.env = pure false; exact sw_no h0) (by cases v <;> first | rfl | cases h0)) fun D σ H h => put_imp h
    · cases h
  | .dput o i e, X, c, k, s, W, A, tk, h, nd => by
    simp only [chkS] at h
    split at h
    · rename_i l r p v pos
      simp only [Bool.and_eq_true, Bool.not_eq_true'] at h
      obtain ⟨h0, ⟨hs, h1⟩, h2, h3⟩ := h
      exact s_dput (ps_dput (by have := A.un; omega) (sE o A.toAmb tk h1 nd.1).1 (sE i A.toAmb tk h2 nd.2.1).1 (sE e A.toAmb tk h3 nd.2.2).1 (sw_no h0))
    · cases h
  | .dputM o i e, X, c, k, s, W, A, tk, h, nd => by
    simp only [chkS] at h
    split at h
    · rename_i l r p v pos
      simp only [Bool.and_eq_true, Bool.not_eq_true'] at h
      obtain ⟨h0, ⟨hs, h1⟩, h2, h3⟩ := h
      exact s_dputM (ps_dput (by have := A.un; omega) (sE o A.toAmb tk h1 nd.1).1 (sE i A.toAmb tk h2 nd.2.1).1 (sE e A.toAmb tk h3 nd.2.2).1 (sw_no h0))
    · cases h
  | .par i j es, X, c, k, s, W, A, tk, h, nd => by
    simp only [chkS] at h
    split at h
    · rename_i x px y py kt pt a b k2 pt2 pos
      simp only [Bool.and_eq_true, decide_eq_true_eq, Bool.not_eq_true'] at h
      obtain ⟨hc, ⟨h1, h2, h3, h4, h5, h6⟩, ⟨h7, h8, h9⟩, h10, h11, h12⟩ := h
      have hij : i ≠ j := fun z => by rw [z] at h3; simp at h3
      have lx := lclB_ok h5
      have ly := lclB_ok h6
      rw [← A.sc] at lx ly
      refine PS.of (ps_par (A.calm hc) A.nd (by rw [A.hN]; exact h1) (by rw [A.hN]; exact h2) hij lx ly (sL es A.toAmb tk h12 nd) (ss_two (by rw [A.sc]; exact A.kind) lx ly h7 h4 h10 h11 h8 h9)) fun D σ H ⟨B, ρ, g, D0, rs, w, q, k⟩ => ?_
      refine ⟨B, ρ, g, _, _, rs, w, q, fun ds g1 vs H1 hq rv w1 f1 => ?_, k.xc rs w⟩
      dsimp only at hq
      split at hq
      · match rv with
        | .cons r1 (.cons r2 .nil) => exact ⟨_, _, rfl, k.nx _ g1 _ H1 hq (((rs.fv w f1).set r1).set r2) w1 f1⟩
      · exact hq.elim
    · cases h
  | .par3 i j l es, X, c, k, s, W, A, tk, h, nd => by
    simp only [chkS] at h
    split at h
    · rename_i x px y py z pz kt pt a b d k2 pt2 pos
      simp only [Bool.and_eq_true, decide_eq_true_eq, Bool.not_eq_true'] at h
      obtain ⟨hc, ⟨h1, h2, h3, ⟨h4, h5, h6⟩, ⟨m1, m2, m3⟩, h7, h8, h9⟩, ⟨p1, p2, p3, p4⟩, q1, q2, q3, q4⟩ := h
      have lx := lclB_ok h7
      have ly := lclB_ok h8
      have lz := lclB_ok h9
      rw [← A.sc] at lx ly lz
      refine PS.of (ps_par3 (A.calm hc) A.nd (by rw [A.hN]; exact h1) (by rw [A.hN]; exact h2) (by rw [A.hN]; exact h3) (fun z => by rw [z] at h4; simp at h4) (fun z => by rw [z] at h5; simp at h5) (fun z => by rw [z] at h6; simp at h6) lx ly lz (sL es A.toAmb tk q4 nd) (ss_three (by rw [A.sc]; exact A.kind) lx ly lz p1 p2 m1 m2 m3 q1 q2 q3 p3 p4)) fun D σ H ⟨B, ρ, g, D0, rs, w, q, k⟩ => ?_
      refine ⟨B, ρ, g, _, _, rs, w, q, fun ds g1 vs H1 hq rv w1 f1 => ?_, k.xc rs w⟩
      dsimp only at hq
      split at hq
      · match rv with
        | .cons r1 (.cons r2 (.cons r3 .nil)) => exact ⟨_, _, _, rfl, k.nx _ g1 _ H1 hq ((((rs.fv w f1).set r1).set r2).set r3) w1 f1⟩
      · exact hq.elim
    · cases h
  | .expr e, X, c, k, s, W, A, tk, h, nd => by
    cases s with
    | Expr v p =>
      simp only [chkS, Bool.and_eq_true, Bool.not_eq_true'] at h
      exact s_expr (ps_expr (sE e A.toAmb tk h.2 nd).1 (sw_no0 h.1))
    | _ => cases h
  | .ifs q a b, X, c, k, s, W, A, tk, h, nd => by
    cases s with
    | If t x y p =>
      simp only [chkS, Bool.and_eq_true] at h
      obtain ⟨h0, h1, h2, h3⟩ := h
      exact s_if ((sE q A.toAmb tk h1 nd.1).2.1 h0) (sSs a A tk h2 nd.2.1) (sSs b A tk h3 nd.2.2)
    | _ => cases h
  | .for_ it tg b, X, c, k, s, W, A, tk, h, nd => by
    simp only [chkS] at h
    split at h
    · simp only [Bool.and_eq_true, Bool.not_eq_true'] at h
      obtain ⟨h9, ⟨h0, h8⟩, h1, h2, h3⟩ := h
      exact s_for (ps_for A.po (A.calm h9) (sI it A.toAmb tk h1 h8 nd.1) (pg_tg A.toAmb h2) (sSs b A tk h3 nd.2) (set_same h0))
    · cases h
  | .whl q b, X, c, k, s, W, A, tk, h, nd => by
    simp only [chkS] at h
    split at h
    · simp only [Bool.and_eq_true] at h
      obtain ⟨h0, h1, h2⟩ := h
      exact s_whl (ps_while A.po ((sE q A.toAmb tk h1 nd.1).2.1 h0) (sSs b A tk h2 nd.2))
    · cases h
  | .ret e, X, c, k, s, W, A, tk, h, nd => by
    simp only [chkS] at h
    split at h
    · exact s_ret (sE e A.toAmb tk h nd).1
    · cases h
  | .retN, X, c, k, s, W, A, tk, h, nd => by
    simp only [chkS] at h
    split at h
    · exact s_retN
    · cases h
  | .ct, X, c, k, s, W, A, tk, h, nd => by
    simp only [chkS] at h
    split at h
    · exact s_ct
    · cases h
  | .raise C, X, c, k, s, W, A, tk, h, nd => by
    simp only [chkS] at h
    split at h
    · simp only [Bool.and_eq_true, decide_eq_true_eq] at h
      obtain ⟨h9, rfl, h1, h2⟩ := h
      obtain ⟨a, n1, n2, n3, n4, n5, n6⟩ := nd
      exact s_raise (A.calm h9) tk (glB_ok A.toAmb h1) n2 n1 n3 n4 n5 n6 (nmB_ok h2).1
    · cases h
  | .raiseAt C e, X, c, k, s, W, A, tk, h, nd => by
    simp only [chkS] at h
    split at h
    · simp only [Bool.and_eq_true, decide_eq_true_eq, Bool.not_eq_true'] at h
      obtain ⟨h9, rfl, ⟨h1, h2⟩, h3, h4⟩ := h
      obtain ⟨⟨hk, n1⟩, n7⟩ := nd
      obtain ⟨k, rfl⟩ : ∃ j, k = j + 2 := ⟨k - 2, by omega⟩
      exact s_raiseAt (A.room h9) (A.calm h9) tk (glB_ok A.toAmb h1) n1 (nmB_ok h2).1 (sE e A.toAmb tk h4 n7).1 (star_cons h3)
    · cases h
  | .sfld C f o e, X, c, k, s, W, A, tk, h, nd => by
    simp only [chkS] at h
    split at h
    · simp only [Bool.and_eq_true, decide_eq_true_eq, Bool.not_eq_true'] at h
      obtain ⟨rfl, h0, h1, h2⟩ := h
      obtain ⟨⟨z, n1, n2, n3⟩, n4, n5⟩ := nd
      exact s_fld n1 n2 n3 (sE o A.toAmb tk h1 n4).1 (sE e A.toAmb tk h2 n5).1 (sw_no h0)
    · cases h
  | .sfld2 C f f' o o' e, X, c, k, s, W, A, tk, h, nd => by
    simp only [chkS] at h
    split at h
    · rename_i l y p1 l' y' p2 kk p3 v p4
      simp only [Bool.and_eq_true, decide_eq_true_eq, Bool.not_eq_true'] at h
      obtain ⟨h9, rfl, rfl, ⟨h0, hd⟩, h1, h2, h3⟩ := h
      obtain ⟨⟨⟨z, n1, n2, n3⟩, ⟨z', n1', n2', n3'⟩⟩, n4, n5, n6⟩ := nd
      rw [n1] at n1'
      cases n1'
      exact s_fld2 n1 n2 n3 n3' (sE o A.toAmb tk h1 n4).1 (sE o' A.toAmb tk h2 n5).1 (sE e A.toAmb tk h3 n6).1 (A.calm h9) (show swapsWith v (some (Expr.Tuple [.Attribute l y p1, .Attribute l' y' p2] kk p3)) p4.line X.env = pure false from sw_tup (.inl rfl)) (ss_no hd)
    · cases h
  | .try_ xs C i b t, X, c, k, s, W, A, tk, h, nd => by
    simp only [chkS] at h
    split at h
    · rename_i body x np n one suite pos' pos
      simp only [Bool.and_eq_true, decide_eq_true_eq, List.all_eq_true] at h
      obtain ⟨h9, ⟨rfl, h1, h2⟩, ⟨h3, h4⟩, ⟨h5, h6⟩, h7⟩ := h
      obtain ⟨⟨a, n1, n2⟩, n3, n4⟩ := nd
      have E : ExcW X.K xs := A.ex.sub fun y hy => List.contains_iff_mem.mp (h4 y hy)
      have hC := List.contains_iff_mem.mp h3
      have bd : ∀ (W : WX) (pn : List (Addr × Obj)) (xe : Value → Shared → Prop), Takes (X.tr pn xe) W → PassesOwn (model X.prog X.w) X.A X.env xe → PSs (X.tr pn xe) body (LS X.K W (wSs b)) := fun W pn xe tk' po =>
        sSs b (X := X.tr pn xe) ⟨⟨A.hN, A.sc, A.fn, A.nd, A.calm, A.room, A.un, A.ex, A.nb, A.gu⟩, po, A.kind, A.stk⟩ tk' h5 n3
      have su : ∀ (a : Addr) (pn : List (Addr × Obj)), PSs (X.suite a pn) (one :: suite) (LS X.K (fun _ _ _ _ => False) (wSs t)) := fun a pn =>
        sSs t (X := X.suite a pn) (c := { c with calm := false }) ⟨⟨A.hN, A.sc, A.fn, A.nd, fun z => absurd z Bool.false_ne_true, fun z => absurd z Bool.false_ne_true, A.un, A.ex, A.nb, A.gu⟩, PassesOwn.never, A.kind, A.stk⟩ takes0 h6 n4
      match i, n, h7 with
      | some i, some n, h7 =>
        simp only [Bool.and_eq_true, decide_eq_true_eq] at h7
        exact s_try_as E hC n2 n1 (glB_ok A.toAmb h1) (nmB_ok h2).1 A.stk.1 A.stk.2 A.nd (by rw [A.hN]; exact h7.1) (by show X.env.scope.names.lookup n = _; rw [A.sc]; exact lclB_ok h7.2) tk bd su
      | none, none, h7 => exact s_try_only E hC n2 n1 (glB_ok A.toAmb h1) (nmB_ok h2).1 A.stk.1 A.stk.2 tk bd su
      | some _, none, h7 => cases h7
      | none, some _, h7 => cases h7
    · cases h
theorem sSs : ∀ (l : Sl) {X : Cx} {c : Cs} {k : Nat} {ss : List Stmt} {W : L2.WX}, AmbS c k X → Takes X W → chkSs c l ss = true → NdSs (wld X) k l → PSs X ss (LS X.K W (wSs l))
  | .nil, X, c, k, ss, W, A, tk, h, nd => by
    cases ss with
    | nil => exact s_nil
    | cons _ _ => simp [chkSs] at h
  | .cons m r, X, c, k, ss, W, A, tk, h, nd => by
    cases ss with
    | nil => simp [chkSs] at h
    | cons x xs =>
      simp only [chkSs, Bool.and_eq_true] at h
      exact s_cons (sS m A tk h.1 nd.1) (sSs r A tk h.2 nd.2)
  | .frz i r, X, c, k, ss, W, A, tk, h, nd => s_frz (sSs r A tk (by simpa only [chkSs] using h) nd)
  | .part b, X, c, k, ss, W, A, tk, h, nd => by
    have q := sSs b A tk (by simpa only [chkSs] using h) nd
    simp only [wSs, wHid_eq]
    exact q
end
/-- THE RULE: a def by its small syntax -/
theorem fn_by {P : Program} {w : World} {K : PySem.W.Frag} {mg : Str → Option Value} {base : Heap} {x qual : Str} {pm : Arguments} {bd : List Stmt} {sc : Scope} {f : Addr} {fd : FuncData} {N ps : List Str} {k : Nat} {sp : GSp} {body : Sl} {xs : List Str} (F : FunD K x qual pm bd sc [] [] f fd) (S : FnScope N ps sc)
    (hc : chkSs ⟨N, sc, fun _ => true, true, xs⟩ body bd = true) (E : ExcW K xs) (nb : ∀ x ∈ bnames, mg x = none) (nd : NdSs ⟨P, w, K, mg, base⟩ k body) (len : ∀ ds g Q W, sp ds g Q W → ds.length = ps.length)
    (hw : ∀ ds g Q W, sp ds g Q W → wSs body (bodyEnds g Q W) (startD N.length ds) g) : FnG P w K mg base (k + 1) f fd ps sp :=
  fn_ok F S len (fun cdv A outer s H Z gu hr => sSs body (c := ⟨N, sc, fun _ => true, true, xs⟩) ⟨⟨rfl, rfl, fun _ _ => rfl, S.nd, fun _ => rfl, fun _ => hr, by have := hr.un; show (A.deeper (PyProof.Rows.envOfC qual sc s.heap.objs.size f cdv)).units + 72 < cLine; omega, E, nb, gu⟩, passes_of rfl, S.kind, rfl, rfl⟩ (takes_of rfl rfl rfl rfl) hc nd) hw
end G3
/-! G3z: the head's facts, with looks of one's own -/
namespace G3
open PySem PySem.Spec PyProof.Rows L2
section
variable (xb : List (PySem.W.Frag → Bool)) (fa : List He.Fa) (fn : List He.DefD)
def obsX (K : PySem.W.Frag) : He.AlD := ((xb.all fun f => f K) && (He.obsD fa fn K).1, (He.obsD fa fn K).2)
def SaysX (K : PySem.W.Frag) : Prop := obsX xb fa fn K = He.valD fn
def obsXG (n : Nat) (g : Addr → Option Obj) : He.AlD := obsX xb fa fn (He.frG g (cStatics :: He.asD g n))
end
def hookX (n : Nat) (xb : List (PySem.W.Frag → Bool)) (fa : List He.Fa) (fn : List He.DefD) : PySem.W.Hook where
  α := He.AlD
  obs := fun s => obsXG xb fa fn n s.heap.get?
  val := fun _ => He.valD fn
  says := fun _ h => ∃ K : PySem.W.Frag, K.In h ∧ SaysX xb fa fn K
  of := fun _ _ e => ⟨_, He.frG_in, e⟩
  keeps := fun _ _ _ ⟨K, hK, c⟩ k => ⟨K, PySem.W.Frag.In.keeps hK k, c⟩
theorem obsXG_eq {n : Nat} {xb : List (PySem.W.Frag → Bool)} {fa : List He.Fa} {fn : List He.DefD} {g : Addr → Option Obj} {s : Shared} (h : ∀ a, g a = s.heap.get? a) : obsXG xb fa fn n g = (hookX n xb fa fn).obs s := by
  rw [show g = s.heap.get? from funext h] <;> rfl
section
variable {xb : List (PySem.W.Frag → Bool)} {fa : List He.Fa} {fn : List He.DefD} {K : PySem.W.Frag}
theorem SaysX.e (c : SaysX xb fa fn K) : obsX xb fa fn K = He.valD fn := c
theorem SaysX.d (c : SaysX xb fa fn K) : He.SaysD fa fn K := by
  have h1 : ((xb.all fun f => f K) && (He.obsD fa fn K).1) = true := by
    have q := congrArg (fun z : He.AlD => z.1) c.e
    exact q
  have h2 : (He.obsD fa fn K).2 = (He.valD fn).2 := by
    have q := congrArg (fun z : He.AlD => z.2) c.e
    exact q
  have : He.obsD fa fn K = He.valD fn := Prod.ext (Bool.and_eq_true_iff.mp h1).2 h2
  exact this
theorem SaysX.x (c : SaysX xb fa fn K) (f : PySem.W.Frag → Bool) (h : f ∈ xb) : f K = true := by
  have h1 : ((xb.all fun f => f K) && (He.obsD fa fn K).1) = true := by
    have q := congrArg (fun z : He.AlD => z.1) c.e
    exact q
  exact List.all_eq_true.mp (Bool.and_eq_true_iff.mp h1).1 f h
end
/-- an own class of exceptions with an own __init__ -/
def oexB (K : PySem.W.Frag) (C : Addr) : Bool := (match K.lookup C with
  | some ⟨.type t, _, .cls cd, sl⟩ => (match cd.mro, sl.toList with
    | .ref C' :: bm, [_, _, _, _, some (.builtin n), _] => decide (t = "type") && (decide (C' = C) && (decide (n = "ValueError.__new__") && (!cd.hasDel && (cd.hasDict && refsVE' bm))))
    | _, _ => false)
  | _ => false) && (decide (PySem.W.findIn K (.ref C) "__setattr__" = some (some (.builtin "object.__setattr__"))) && (decide (PySem.W.subIn K (.ref C) (.type "BaseException") = some true) && (decide (PySem.W.typeIn K (.ref C) = some (.type "type")) && PySem.W.keepIn K (.ref C))))
where refsVE' := PySem.HandSPX.refsVE
theorem oexB_ok {K : PySem.W.Frag} {C : Addr} (h : oexB K C = true) : OexC K C := by
  unfold oexB at h
  rw [Bool.and_eq_true] at h
  obtain ⟨h, h'⟩ := h
  simp only [Bool.and_eq_true, decide_eq_true_eq] at h'
  obtain ⟨q1, q2, q3, q4⟩ := h'
  refine ⟨?_, q1, q2, q3, q4⟩
  split at h
  · rename_i t dd cd sl ho
    split at h
    · rename_i C' bm k0 k1 k2 k3 n k5 hm hs
      simp only [Bool.and_eq_true, decide_eq_true_eq, Bool.not_eq_true'] at h
      obtain ⟨rfl, rfl, rfl, hdel, hd, hb⟩ := h
      obtain ⟨nm, bs, mro, ns, qn, hd2, sn, sub, ab, col, del⟩ := cd
      dsimp only at hm hdel hd
      subst hm hdel hd
      have hsl : sl = #[k0, k1, k2, k3, some (.builtin "ValueError.__new__"), k5] := by
        obtain ⟨l⟩ := sl
        simp only at hs
        rw [hs]
      subst hsl
      exact ⟨nm, qn, ns, bs, bm, sn, sub, ab, col, dd, k0, k1, k2, k3, k5, ho, hb⟩
    · cases h
  · cases h
/-- SpareError, asked for its __init__ -/
def upB (K : PySem.W.Frag) : Bool := PySem.W.readsIn K (He.ga K upN) (.type "type") && (decide (PySem.W.specialIn K (.ref (He.ga K upN)) "__getattribute__" = some (some (.builtin "type.__getattribute__"))) &&
  decide (PySem.W.nsIn K mainGlobals upN = some (some (.ref (He.ga K upN)))) && (match PySem.W.findCls K (.ref (He.ga K upN)) (.type "type") "__init__" with | some (.val (.builtin n)) => decide (n = "ValueError.__init__") | _ => false))
theorem upB_ok {K : PySem.W.Frag} (h : upB K = true) : PySem.W.nsIn K mainGlobals upN = some (some (.ref (He.ga K upN))) ∧ UpC K (He.ga K upN) (.type "type") := by
  unfold upB at h
  rw [Bool.and_eq_true, Bool.and_eq_true, Bool.and_eq_true, decide_eq_true_eq, decide_eq_true_eq] at h
  obtain ⟨h1, ⟨h2, h3⟩, h4⟩ := h
  refine ⟨h3, h1, h2, ?_⟩
  split at h4
  · rename_i n e
    rw [e, of_decide_eq_true h4]
  · cases h4
/-- a class with a field at -/
def atB (C : Str) (K : PySem.W.Frag) : Bool := decide (PySem.W.nsIn K mainGlobals C = some (some (.ref (He.ga K C)))) && (oexB K (He.ga K C) && (decide (PySem.W.findIn K (.ref (He.ga K C)) "__init__" = some (some (.ref (He.ma K (He.ga K C) "__init__")))) &&
  (decide (PySem.W.typeIn K (.ref (He.ma K (He.ga K C) "__init__")) = some (.type "function")) && (decide (PySem.W.findIn K (.ref (He.ga K C)) "at" = some none) && upB K))))
theorem atB_ok {P : Program} {w : World} {K : PySem.W.Frag} {mg : Str → Option Value} {base h : Heap} {C x qual : Str} {pm : Arguments} {bd : List Stmt} {sc : Scope} {fd : FuncData} (X : K.In h) (G : h.Ns mainGlobals mg) (c : atB C K = true)
    (F : FunD K x qual pm bd sc [] [] (He.fAd K (C, some "__init__")) fd) (Sc : FnScope ["self", "at"] ["self", "at"] sc) (hbd : initB sc bd = true) (bd' : Binds K fd ["self", "at"] []) : AtC P w K mg base C := by
  simp only [atB, Bool.and_eq_true, decide_eq_true_eq] at c
  obtain ⟨h1, h2, h3, h4, h5, h6⟩ := c
  obtain ⟨u1, u2⟩ := upB_ok h6
  exact ⟨_, _, fd, gaK_of h1, PySem.W.mg_of X G h1, oexB_ok h2, h3, h4, h5, init_ok F Sc hbd (PySem.W.mg_of X G u1) u2, bd'⟩
/-- a def of a class, called by the class's name -/
def clmB (C m : Str) (K : PySem.W.Frag) : Bool := decide (PySem.W.nsIn K mainGlobals C = some (some (.ref (He.ga K C)))) && (PySem.W.readsIn K (He.ga K C) (.type "type") && (decide (PySem.W.specialIn K (.ref (He.ga K C)) "__getattribute__" = some (some (.builtin "type.__getattribute__"))) &&
  ((match PySem.W.findCls K (.ref (He.ga K C)) (.type "type") m with | some (.val (.ref f)) => decide (f = He.ma K (He.ga K C) m) | _ => false) && PySem.W.handedIn (.ref (He.ma K (He.ga K C) m)))))
theorem clmB_ok {P : Program} {w : World} {K : PySem.W.Frag} {mg : Str → Option Value} {base h : Heap} {C m : Str} {k j : Nat} {fd : FuncData} {ps : List Str} {sp : GSp} (X : K.In h) (G : h.Ns mainGlobals mg) (c : clmB C m K = true) (hj : j ≤ k)
    (kp : PySem.W.keepIn K (.ref (He.fAd K (C, some m))) = true) (F : FnG P w K mg base j (He.fAd K (C, some m)) fd ps sp) (hb : Binds K fd ps []) : CmIn ⟨P, w, K, mg, base⟩ k C m sp := by
  simp only [clmB, Bool.and_eq_true, decide_eq_true_eq] at c
  obtain ⟨h1, h2, h3, h4, h5⟩ := c
  refine ⟨_, _, fd, ps, j, hj, PySem.W.mg_of X G h1, ⟨h2, h3, ?_, h5, kp⟩, F, hb⟩
  split at h4
  · rename_i f e
    rw [e, of_decide_eq_true h4]
  · cases h4
/-- a written tuple of texts -/
def gtpB (x : Str) (ws : List Str) (K : PySem.W.Frag) : Bool := match PySem.W.nsIn K mainGlobals x with
  | some (some (.ref a)) => (match K.lookup a with
    | some ⟨.type t, _, .seq its _, _⟩ => decide (t = "tuple") && (decide (its.size ≤ 1000) && decide (its.toList.map (fun v => match v with | .str z _ => some z | _ => none) = ws.map some))
    | _ => false)
  | _ => false
theorem gtpB_ok {P : Program} {w : World} {K : PySem.W.Frag} {mg : Str → Option Value} {base h : Heap} {x : Str} {ws : List Str} (X : K.In h) (G : h.Ns mainGlobals mg) (c : gtpB x ws K = true) : GtIn ⟨P, w, K, mg, base⟩ x ws := by
  unfold gtpB at c
  split at c
  · rename_i a e
    refine ⟨a, PySem.W.mg_of X G e, fun H => .inr ?_⟩
    split at c
    · rename_i t d its n sl el
      simp only [Bool.and_eq_true, decide_eq_true_eq] at c
      obtain ⟨rfl, hz, hw⟩ := c
      refine ⟨_, its, n, el, rfl, rfl, by unfold sizeLine; omega, ?_⟩
      have go : ∀ (l : List Value) (ws : List Str), l.map (fun v => match v with | .str z _ => some z | _ => none) = ws.map some → Vals (ws.map V.str) l := by
        intro l
        induction l with
        | nil => intro ws hw; cases ws with
          | nil => exact .nil
          | cons _ _ => cases hw
        | cons v l ih => intro ws hw; cases ws with
          | nil => cases hw
          | cons z ws =>
            rw [List.map_cons, List.map_cons] at hw
            injection hw with h1 h2
            refine .cons ?_ (ih ws h2)
            split at h1
            · cases h1; exact ⟨_, rfl⟩
            · cases h1
      exact go _ _ hw
    · cases c
  · cases c
end G3
/-! G3: proving over the meaning: rules for loops -/
namespace G3
open PySem L2

section
variable {gd : GH → Prop} {st : D → GH → (Option R → GH → Prop) → Prop} {Q : List D → GH → Prop}
/-- a comprehension that keeps what p says and makes f of it, and changes nothing -/
theorem compW_fm {α : Type} (enc : α → D) (p : α → Bool) (f : α → D) {g : GH} (hg : gd g) : ∀ {xs : List α} {acc : List D},
    (∀ x ∈ xs, ∀ P : Option R → GH → Prop, (if p x = true then P (some (.v (f x))) g else P none g) → st (enc x) g P) → acc.length + xs.length ≤ sizeLine → Q (acc ++ (xs.filter p).map f) g → compW gd st (xs.map enc) acc g Q
  | [], acc, _, _, q => ⟨hg, by simpa using q⟩
  | x :: xs, acc, h, hz, q => by
    refine ⟨hg, by simp only [List.length_cons] at hz; omega, h x List.mem_cons_self _ ?_⟩
    cases e : p x with
    | true =>
      rw [if_pos rfl]
      refine compW_fm enc p f hg (fun y hy => h y (List.mem_cons_of_mem _ hy)) (by simp only [List.length_append, List.length_cons, List.length_nil] at hz ⊢; omega) ?_
      rw [List.filter_cons_of_pos e] at q
      simpa using q
    | false =>
      rw [if_neg Bool.false_ne_true]
      refine compW_fm enc p f hg (fun y hy => h y (List.mem_cons_of_mem _ hy)) (by simp only [List.length_cons] at hz; omega) ?_
      rw [List.filter_cons_of_neg (by rw [e]; exact Bool.false_ne_true)] at q
      exact q
theorem compW_m {α : Type} (enc : α → D) (f : α → D) {g : GH} (hg : gd g) {xs : List α}
    (h : ∀ x ∈ xs, ∀ P : Option R → GH → Prop, P (some (.v (f x))) g → st (enc x) g P) (hz : xs.length ≤ sizeLine) (q : Q (xs.map f) g) : compW gd st (xs.map enc) [] g Q :=
  compW_fm enc (fun _ => true) f hg (fun x hx P hp => h x hx P (by simpa using hp)) (by simpa using hz) (by rw [List.filter_eq_self.mpr fun _ _ => rfl, List.nil_append]; exact q)
end
theorem RetOk.same {g0 : GH} {Q : QK} {r : R} {g' : GH} (h : Q r g') : RetOk g0 Q r g' := ⟨r, g', fun _ _ h => h, .inl rfl, h⟩
/-- handed back with no more tracked than is said -/
theorem RetOk.less {g0 : GH} {Q : QK} {r : R} {g' g'' : GH} (s : ∀ b o, g'' b = some o → g' b = some o) (h : Q r g'') : RetOk g0 Q r g' := ⟨r, g'', s, .inl rfl, h⟩
/-- a list that was made here is handed back -/
theorem RetOk.tl {g0 : GH} {Q : QK} {p : Addr} {ds : List D} {g' g'' : GH} (hp : g' p = some (.lst ds)) (h0 : g0 p = none) (hn : g'' p = none) (s : ∀ b o, g'' b = some o → g' b = some o) (h : Q (.tl ds) g'') : RetOk g0 Q (.v (.ref p)) g' :=
  ⟨.tl ds, g'', s, .inr ⟨p, ds, rfl, rfl, hp, h0, hn⟩, h⟩
theorem all_map {α : Type} (xs : List α) (f : α → Bool) : (xs.map f).all id = xs.all f := by simp [List.all_map]
theorem any_map {α : Type} (xs : List α) (f : α → Bool) : (xs.map f).any id = xs.any f := by simp [List.any_map]
theorem okDs_ints : ∀ xs : List Int, okDs 0 (xs.map .int) = true
  | [] => rfl
  | x :: xs => by simp [okDs, okD, okDs_ints xs]
theorem deq_int (i j : Int) : deq (.int i) (.int j) = (i == j) := rfl
theorem inD_ints (i : Int) : ∀ xs : List Int, inD (.int i) (xs.map .int) = xs.contains i
  | [] => rfl
  | x :: xs => by
    have e := inD_ints i xs
    unfold inD at e ⊢
    rw [List.map_cons, List.any_cons, e, deq_int, List.contains_cons]
    congr 1
    exact Bool.beq_comm
end G3
/-! W0: rules for proofs over the meaning -/
namespace G3
open PySem L2
theorem atI_nat' {α : Type} {xs : List α} {i : Nat} : L2.atI xs (i : Int) = xs[i]? := by
  unfold L2.atI ixN
  rw [if_pos (by omega)]
  split
  · simp
  · rename_i h
    rw [List.getElem?_eq_none (by omega)]
    rfl
theorem atI_0 {α : Type} {a : α} {xs : List α} : L2.atI (a :: xs) 0 = some a := by
  have := atI_nat' (xs := a :: xs) (i := 0); simpa using this
theorem atI_1 {α : Type} {a b : α} {xs : List α} : L2.atI (a :: b :: xs) 1 = some b := by
  have := atI_nat' (xs := a :: b :: xs) (i := 1); simpa using this
theorem atI_2 {α : Type} {a b c : α} {xs : List α} : L2.atI (a :: b :: c :: xs) 2 = some c := by
  have := atI_nat' (xs := a :: b :: c :: xs) (i := 2); simpa using this
theorem atI_3 {α : Type} {a b c d : α} {xs : List α} : L2.atI (a :: b :: c :: d :: xs) 3 = some d := by
  have := atI_nat' (xs := a :: b :: c :: d :: xs) (i := 3); simpa using this
/-- an item of a list of things of one kind -/
theorem atI_map {α β : Type} (f : α → β) {xs : List α} {i : Int} (h0 : 0 ≤ i) (h1 : i < xs.length) : ∃ x, x ∈ xs ∧ xs[i.toNat]? = some x ∧ L2.atI (xs.map f) i = some (f x) := by
  obtain ⟨n, rfl⟩ : ∃ n : Nat, i = n := ⟨i.toNat, by omega⟩
  have hi : n < xs.length := by omega
  rw [Int.toNat_natCast]
  exact ⟨xs[n], List.getElem_mem hi, List.getElem?_eq_getElem hi, by rw [atI_nat', List.getElem?_map, List.getElem?_eq_getElem hi]; rfl⟩
theorem ixN_nat {n i : Nat} (h : i < n) : ixN n (i : Int) = some i := by
  unfold ixN
  rw [if_pos (by omega), if_pos (by omega), Int.toNat_natCast]
theorem ixN_0 {n : Nat} (h : 0 < n) : ixN n 0 = some 0 := ixN_nat (i := 0) h
theorem ixN_1 {n : Nat} (h : 1 < n) : ixN n 1 = some 1 := ixN_nat (i := 1) h
theorem ixN_2 {n : Nat} (h : 2 < n) : ixN n 2 = some 2 := ixN_nat (i := 2) h
theorem ixN_s0 {n : Nat} : ixN (n + 1) 0 = some 0 := ixN_0 (by omega)
theorem ixN_s1 {n : Nat} : ixN (n + 1 + 1) 1 = some 1 := ixN_1 (by omega)
theorem ixN_s2 {n : Nat} : ixN (n + 1 + 1 + 1) 2 = some 2 := ixN_2 (by omega)
theorem seqIndex_ok {i : Int} {n : Nat} (h0 : 0 ≤ i) (h1 : i < n) : seqIndex? i n = some i.toNat := by
  have e : (if i < 0 then i + (n : Int) else i) = i := if_neg (by omega)
  show (if (decide (0 ≤ (if i < 0 then i + (n : Int) else i)) && decide ((if i < 0 then i + (n : Int) else i) < n)) = true then some (if i < 0 then i + (n : Int) else i).toNat else none) = _
  rw [e, if_pos (by simp [h0, h1])]
theorem gup_self {g : GH} {a : Addr} {o : DO} (h : g a = some o) : gup g a o = g := by
  funext b; unfold gup; split
  · rename_i e; rw [e, h]
  · rfl
theorem ex_eq {α : Type} {a : α} {P : α → Prop} : (∃ x, x = a ∧ P x) ↔ P a := ⟨fun ⟨_, e, h⟩ => e ▸ h, fun h => ⟨a, rfl, h⟩⟩
theorem ex_eq' {α : Type} {a : α} {P : α → Prop} : (∃ x, a = x ∧ P x) ↔ P a := ⟨fun ⟨_, e, h⟩ => e ▸ h, fun h => ⟨a, rfl, h⟩⟩
theorem ex2_eq {α β : Type} {a : α} {P : α → β → Prop} : (∃ x y, x = a ∧ P x y) ↔ ∃ y, P a y := ⟨fun ⟨_, y, e, h⟩ => ⟨y, e ▸ h⟩, fun ⟨y, h⟩ => ⟨a, y, rfl, h⟩⟩
theorem ex2_eq' {α β : Type} {a : α} {P : α → β → Prop} : (∃ x y, a = x ∧ P x y) ↔ ∃ y, P a y := ⟨fun ⟨_, y, e, h⟩ => ⟨y, e ▸ h⟩, fun ⟨y, h⟩ => ⟨a, y, rfl, h⟩⟩
theorem ex_or1 {α : Type} {a : α} {P : α → Prop} {B : Prop} : (∃ x, (x = a ∨ False) ∧ P x) ↔ P a := by simp
theorem ite_dec {c : Prop} [Decidable c] {A B : Prop} : (if decide c = true then A else B) ↔ (if c then A else B) := by simp
/-- a def's loop, by what holds before each turn -/
theorem forW_inv {gd : GH → Prop} {tg : Tg} {tb : TSD} {De : DEnds} (I : Nat → DEnv → GH → Prop) : ∀ {ds : List D} {k : Nat} {ρ : DEnv} {g : GH}, I k ρ g → (∀ i ρ g, I i ρ g → gd g) →
    (∀ i d ρ g, ds[i]? = some d → I (k + i) ρ g → ∀ N : DEnv → GH → Prop, (∀ ρ' g', I (k + i + 1) ρ' g' → N ρ' g') → tgB tg d ρ fun ρ1 => tb { De with nx := N, ct := N } ρ1 g) →
    (∀ ρ g, I (k + ds.length) ρ g → De.nx ρ g) → forW gd tg tb De ds ρ g
  | [], k, ρ, g, h, hg, _, hd => ⟨hg _ _ _ h, hd ρ g h⟩
  | d :: ds, k, ρ, g, h, hg, hs, hd => by
    refine ⟨hg _ _ _ h, hs 0 d ρ g rfl h _ fun ρ' g' h' => ?_⟩
    refine forW_inv I (k := k + 1) h' hg (fun i d' ρ g hi hI N hN => ?_) fun ρ g hI => hd ρ g ?_
    · have := hs (i + 1) d' ρ g (by simpa using hi)
      rw [show k + (i + 1) = k + 1 + i by omega] at this
      exact this hI N hN
    · rw [show k + 1 + ds.length = k + (d :: ds).length by simp; omega] at hI; exact hI
/-- a comprehension, by what holds before each turn -/
theorem compW_inv {gd : GH → Prop} {st : D → GH → (Option R → GH → Prop) → Prop} {Q : List D → GH → Prop} (I : Nat → List D → GH → Prop) : ∀ {ds acc : List D} {k : Nat} {g : GH}, I k acc g → (∀ i acc g, I i acc g → gd g ∧ acc.length < sizeLine) →
    (∀ i d acc g, ds[i]? = some d → I (k + i) acc g → ∀ P : Option R → GH → Prop, (∀ r g', I (k + i + 1) (acc ++ [r.fz]) g' → P (some r) g') → (∀ g', I (k + i + 1) acc g' → P none g') → st d g P) →
    (∀ acc g, I (k + ds.length) acc g → Q acc g) → compW gd st ds acc g Q
  | [], acc, k, g, h, hg, _, hd => ⟨(hg _ _ _ h).1, hd acc g h⟩
  | d :: ds, acc, k, g, h, hg, hs, hd => by
    have step : ∀ acc' g', I (k + 0 + 1) acc' g' → compW gd st ds acc' g' Q := fun acc' g' q => by
      refine compW_inv I (k := k + 1) q hg (fun i d' acc g hi hI => ?_) fun acc g hI => hd acc g ?_
      · have := hs (i + 1) d' acc g (by simpa using hi)
        rw [show k + (i + 1) = k + 1 + i by omega] at this
        exact this hI
      · rw [show k + 1 + ds.length = k + (d :: ds).length by simp; omega] at hI; exact hI
    exact ⟨(hg _ _ _ h).1, (hg _ _ _ h).2, hs 0 d acc g rfl h _ (fun r g' q => step _ _ q) fun g' q => step _ _ q⟩
/-- over the numbers below n -/
theorem compW_rng {st : D → GH → (Option R → GH → Prop) → Prop} {Q : List D → GH → Prop} (I : Nat → List D → GH → Prop) {n : Nat} {g : GH} (h0 : I 0 [] g) (hg : ∀ i acc g, I i acc g → acc.length < sizeLine)
    (hs : ∀ i, i < n → ∀ acc g, I i acc g → ∀ P : Option R → GH → Prop, (∀ r g', I (i + 1) (acc ++ [r.fz]) g' → P (some r) g') → (∀ g', I (i + 1) acc g' → P none g') → st (.int i) g P)
    (hd : ∀ acc g, I n acc g → Q acc g) : compW (fun _ => True) st (rngD 0 n) [] g Q := by
  refine compW_inv I (k := 0) h0 (fun i acc g h => ⟨trivial, hg i acc g h⟩) (fun i d acc g hi hI P h1 h2 => ?_) fun acc g h => hd acc g ?_
  · unfold rngD at hi
    rw [List.getElem?_map] at hi
    by_cases hn : i < n
    · rw [List.getElem?_range hn] at hi
      cases hi
      rw [show (fun i : Nat => D.int (0 + (i : Int))) i = D.int i from congrArg D.int (Int.zero_add _)]
      rw [Nat.zero_add] at hI h1 h2
      exact hs i hn acc g hI P h1 h2
    · rw [List.getElem?_eq_none (by simpa using hn)] at hi
      cases hi
  · rw [Nat.zero_add] at h
    simpa [rngD] using h
/-- over things of one kind -/
theorem compW_map {α : Type} (enc : α → D) {gd : GH → Prop} {st : D → GH → (Option R → GH → Prop) → Prop} {Q : List D → GH → Prop} (I : Nat → List D → GH → Prop) {xs : List α} {g : GH} (h0 : I 0 [] g) (hg : ∀ i acc g, I i acc g → gd g ∧ acc.length < sizeLine)
    (hs : ∀ i x, xs[i]? = some x → ∀ acc g, I i acc g → ∀ P : Option R → GH → Prop, (∀ r g', I (i + 1) (acc ++ [r.fz]) g' → P (some r) g') → (∀ g', I (i + 1) acc g' → P none g') → st (enc x) g P)
    (hd : ∀ acc g, I xs.length acc g → Q acc g) : compW gd st (xs.map enc) [] g Q := by
  refine compW_inv I (k := 0) h0 hg (fun i d acc g hi hI P h1 h2 => ?_) fun acc g h => hd acc g (by simpa using h)
  rw [List.getElem?_map] at hi
  cases e : xs[i]? with
  | none => rw [e] at hi; cases hi
  | some x =>
    rw [e] at hi; cases hi
    rw [Nat.zero_add] at hI h1 h2
    exact hs i x e acc g hI P h1 h2
theorem fIn_ints {neg : Bool} {s : Int} {xs : List Int} {g : GH} {Q : QK} (q : Q (.v (.bl (neg ^^ xs.contains s))) g) : fIn neg (.v (.int s)) (.v (.tup (xs.map .int))) g Q :=
  ⟨_, .inr (.inl rfl), rfl, okDs_ints _, by rw [R.fz_v, inD_ints]; cases neg <;> simpa using q⟩
theorem fIn_intsL {neg : Bool} {s : Int} {xs : List Int} {g : GH} {Q : QK} {r : R} (h : lstOf g r (xs.map .int)) (q : Q (.v (.bl (neg ^^ xs.contains s))) g) : fIn neg (.v (.int s)) r g Q :=
  ⟨_, .inl h, rfl, okDs_ints _, by rw [R.fz_v, inD_ints]; cases neg <;> simpa using q⟩
/-- a loop over the numbers below n -/
theorem forW_rng {tg : Tg} {tb : TSD} {De : DEnds} (I : Nat → DEnv → GH → Prop) {n : Nat} {ρ : DEnv} {g : GH} (h0 : I 0 ρ g)
    (hs : ∀ i, i < n → ∀ ρ g, I i ρ g → ∀ N : DEnv → GH → Prop, (∀ ρ' g', I (i + 1) ρ' g' → N ρ' g') → tgB tg (.int i) ρ fun ρ1 => tb { De with nx := N, ct := N } ρ1 g)
    (hd : ∀ ρ g, I n ρ g → De.nx ρ g) : forW (fun _ => True) tg tb De (rngD 0 n) ρ g := by
  refine forW_inv I (k := 0) h0 (fun _ _ _ _ => trivial) (fun i d ρ g hi hI N hN => ?_) fun ρ g h => hd ρ g ?_
  · unfold rngD at hi
    rw [List.getElem?_map] at hi
    by_cases hn : i < n
    · rw [List.getElem?_range hn] at hi
      cases hi
      rw [show (fun i : Nat => D.int (0 + (i : Int))) i = D.int i from congrArg D.int (Int.zero_add _)]
      rw [Nat.zero_add] at hI hN
      exact hs i hn ρ g hI N hN
    · rw [List.getElem?_eq_none (by simpa using hn)] at hi
      cases hi
  · rw [Nat.zero_add] at h
    simpa [rngD] using h
/-- a loop over things of one kind -/
theorem forW_map {α : Type} (enc : α → D) {gd : GH → Prop} {tg : Tg} {tb : TSD} {De : DEnds} (I : Nat → DEnv → GH → Prop) {xs : List α} {ρ : DEnv} {g : GH} (h0 : I 0 ρ g) (hg : ∀ i ρ g, I i ρ g → gd g)
    (hs : ∀ i x, xs[i]? = some x → ∀ ρ g, I i ρ g → ∀ N : DEnv → GH → Prop, (∀ ρ' g', I (i + 1) ρ' g' → N ρ' g') → tgB tg (enc x) ρ fun ρ1 => tb { De with nx := N, ct := N } ρ1 g)
    (hd : ∀ ρ g, I xs.length ρ g → De.nx ρ g) : forW gd tg tb De (xs.map enc) ρ g := by
  refine forW_inv I (k := 0) h0 hg (fun i d ρ g hi hI N hN => ?_) fun ρ g h => hd ρ g (by simpa using h)
  rw [List.getElem?_map] at hi
  cases e : xs[i]? with
  | none => rw [e] at hi; cases hi
  | some x =>
    rw [e] at hi; cases hi
    rw [Nat.zero_add] at hI hN
    exact hs i x e ρ g hI N hN
theorem enumD_map {α : Type} (enc : α → D) : ∀ (xs : List α) (i : Nat), enumD i (xs.map enc) = (xs.zipIdx i).map fun p => .tup [.int p.2, enc p.1]
  | [], _ => rfl
  | x :: xs, i => by
    show _ :: enumD (i + 1) (xs.map enc) = _
    rw [enumD_map enc xs (i + 1)]
    rfl
theorem cutD_map {α β : Type} (f : α → β) (xs : List α) (lo hi : Option Int) : cutD (xs.map f) lo hi = (cutD xs lo hi).map f := by
  unfold cutD
  rw [List.length_map, List.map_take, List.map_drop]
theorem cutD_first {α : Type} {xs : List α} {i : Int} (h0 : 0 ≤ i) : cutD xs none (some i) = xs.take i.toNat := by
  have h2 : HT.sIx xs.length 0 none = 0 := rfl
  have h3 : HT.sIx xs.length xs.length (some i) = min i.toNat xs.length := by simp only [HT.sIx]; rw [if_neg (by omega)]
  unfold cutD
  rw [h2, h3, List.drop_zero, Nat.sub_zero]
  by_cases z : i.toNat ≤ xs.length
  · rw [Nat.min_eq_left z]
  · rw [Nat.min_eq_right (by omega), List.take_of_length_le (Nat.le_refl _), List.take_of_length_le (by omega)]
theorem cutD_from {α : Type} {xs : List α} {i : Int} (h0 : 0 ≤ i) : cutD xs (some i) none = xs.drop i.toNat := by
  have h2 : HT.sIx xs.length xs.length none = xs.length := rfl
  have h3 : HT.sIx xs.length 0 (some i) = min i.toNat xs.length := by simp only [HT.sIx]; rw [if_neg (by omega)]
  unfold cutD
  rw [h2, h3]
  by_cases z : i.toNat ≤ xs.length
  · rw [Nat.min_eq_left z, List.take_of_length_le (by simp)]
  · rw [Nat.min_eq_right (by omega), List.drop_of_length_le (Nat.le_refl _), List.drop_of_length_le (by omega)]; simp
theorem cutD_pre {α : Type} {xs : List α} {i : Int} (h0 : 0 ≤ i) (h1 : i ≤ xs.length) : cutD xs none (some i) = xs.take i.toNat := by
  have : HT.sIx xs.length xs.length (some i) = i.toNat := by
    simp only [HT.sIx]; rw [if_neg (by omega)]; omega
  have h2 : HT.sIx xs.length 0 none = 0 := rfl
  unfold cutD
  rw [this, h2, List.drop_zero, Nat.sub_zero]
theorem cutD_post {α : Type} {xs : List α} {i : Int} (h0 : 0 ≤ i) (h1 : i ≤ xs.length) : cutD xs (some i) none = xs.drop i.toNat := by
  have : HT.sIx xs.length 0 (some i) = i.toNat := by
    simp only [HT.sIx]; rw [if_neg (by omega)]; omega
  have h2 : HT.sIx xs.length xs.length none = xs.length := rfl
  unfold cutD
  rw [this, h2, List.take_of_length_le (by simp)]
theorem gup_swap {g : GH} {a b : Addr} {x y : DO} (h : a ≠ b) : gup (gup g a x) b y = gup (gup g b y) a x := by
  funext c; unfold gup
  by_cases h1 : c = a
  · subst h1; rw [if_neg h, if_pos rfl, if_pos rfl]
  · by_cases h2 : c = b
    · subst h2; rw [if_pos rfl, if_neg h1, if_pos rfl]
    · rw [if_neg h2, if_neg h1, if_neg h1, if_neg h2]
/-- a change below one other, below two others -/
theorem gup_in1 {g : GH} {a b : Addr} {x y z : DO} (h : a ≠ b) : gup (gup (gup g a x) b y) a z = gup (gup g a z) b y := by rw [gup_swap (g := g) h, gup_gup, gup_swap h]
theorem gup_in2 {g : GH} {a b c : Addr} {x y z w : DO} (h : a ≠ b) (h2 : a ≠ c) : gup (gup (gup (gup g a x) b y) c z) a w = gup (gup (gup g a w) b y) c z := by
  rw [gup_swap (a := c) (Ne.symm h2), gup_in1 h]
theorem gup_less {g : GH} {a : Addr} {o : DO} (h : g a = none) : ∀ b u, g b = some u → gup g a o b = some u := fun b u e => by
  rw [gup_ne (fun k => by rw [k, h] at e; cases e)]; exact e
theorem seqIndex_lt {i : Int} {n : Nat} (h0 : 0 ≤ i) (h1 : i < n) : ∃ k : Nat, i = k ∧ k < n ∧ seqIndex? i n = some k :=
  ⟨i.toNat, by omega, by omega, seqIndex_ok h0 h1⟩
theorem atI_lt {α : Type} {xs : List α} {i : Int} (h0 : 0 ≤ i) (h1 : i < xs.length) : ∃ (k : Nat) (x : α), i = k ∧ xs[k]? = some x ∧ x ∈ xs ∧ L2.atI xs i = some x := by
  obtain ⟨k, rfl⟩ : ∃ k : Nat, i = k := ⟨i.toNat, by omega⟩
  have hk : k < xs.length := by omega
  exact ⟨k, xs[k], rfl, List.getElem?_eq_getElem hk, List.getElem_mem hk, by rw [atI_nat', List.getElem?_eq_getElem hk]⟩
theorem map_inj_int {xs ys : List Int} (h : xs.map D.int = ys.map D.int) : xs = ys := by
  induction xs generalizing ys with
  | nil => cases ys <;> simp_all
  | cons x xs ih =>
    cases ys with
    | nil => simp at h
    | cons y ys => simp only [List.map_cons, List.cons.injEq, D.int.injEq] at h; rw [h.1, ih h.2]
theorem szl : sizeLine = 16777216 := rfl
theorem erase_perm {α : Type} : ∀ {xs : List α} {k : Nat} (h : k < xs.length), (xs[k] :: xs.eraseIdx k).Perm xs
  | [], _, h => absurd h (by simp)
  | x :: xs, 0, _ => .refl _
  | x :: xs, k + 1, h => by
    rw [List.eraseIdx_cons_succ, List.getElem_cons_succ]
    exact (List.Perm.swap _ _ _).trans ((erase_perm (by simpa using h)).cons x)
theorem erase_map {α β : Type} (f : α → β) : ∀ (xs : List α) (k : Nat), (xs.map f).eraseIdx k = (xs.eraseIdx k).map f
  | [], _ => rfl
  | x :: xs, 0 => rfl
  | x :: xs, k + 1 => by rw [List.map_cons, List.eraseIdx_cons_succ, erase_map f xs k, List.eraseIdx_cons_succ, List.map_cons]
theorem gup_up2 {g : GH} {a b c : Addr} {y z w : DO} (h1 : a ≠ b) (h2 : a ≠ c) : gup (gup (gup g b y) c z) a w = gup (gup (gup g a w) b y) c z := by
  rw [gup_swap (a := c) h2.symm, gup_swap (a := b) h1.symm]
theorem gup_up1 {g : GH} {a b : Addr} {y w : DO} (h1 : a ≠ b) : gup (gup g b y) a w = gup (gup g a w) b y := gup_swap h1.symm
/-! ### data of a kind -/
theorem deq_bl (a b : Bool) : deq (.bl a) (.bl b) = (a == b) := rfl
theorem deq_str (a b : Str) : deq (.str a) (.str b) = (a == b) := rfl
theorem deqs_map {α : Type} [BEq α] (enc : α → D) (h : ∀ x y, deq (enc x) (enc y) = (x == y)) : ∀ xs ys : List α, PyData.eqvAll (pds (xs.map enc)) (pds (ys.map enc)) = (xs == ys)
  | [], [] => by simp [pds, PyData.eqvAll]
  | [], _ :: _ => by simp [pds, PyData.eqvAll]
  | _ :: _, [] => by simp [pds, PyData.eqvAll]
  | x :: xs, y :: ys => by
    have e := h x y
    unfold deq at e
    simp only [List.map_cons, pds, PyData.eqvAll, e, deqs_map enc h xs ys]
    rfl
theorem deq_tup {α : Type} [BEq α] (enc : α → D) (h : ∀ x y, deq (enc x) (enc y) = (x == y)) (xs ys : List α) : deq (.tup (xs.map enc)) (.tup (ys.map enc)) = (xs == ys) := by
  have e := deqs_map enc h xs ys
  simpa only [deq, pd, PyData.eqv] using e
theorem deq_lst {α : Type} [BEq α] (enc : α → D) (h : ∀ x y, deq (enc x) (enc y) = (x == y)) (xs ys : List α) : deq (.lst (xs.map enc)) (.lst (ys.map enc)) = (xs == ys) := by
  have e := deqs_map enc h xs ys
  simpa only [deq, pd, PyData.eqv] using e
theorem deq_ints (xs ys : List Int) : deq (.tup (xs.map .int)) (.tup (ys.map .int)) = (xs == ys) := deq_tup D.int deq_int xs ys
theorem deq_intsL (xs ys : List Int) : deq (.lst (xs.map .int)) (.lst (ys.map .int)) = (xs == ys) := deq_lst D.int deq_int xs ys
theorem okDs_map {α : Type} (enc : α → D) {n : Nat} : ∀ {xs : List α}, (∀ x ∈ xs, okD n (enc x) = true) → okDs n (xs.map enc) = true
  | [], _ => by simp [okDs]
  | x :: xs, h => by simp only [List.map_cons, okDs, h x List.mem_cons_self, okDs_map enc fun y hy => h y (List.mem_cons_of_mem _ hy), Bool.and_self]
theorem okD_int {n : Nat} {i : Int} : okD n (.int i) = true := by cases n <;> rfl
theorem okD_bl {n : Nat} {i : Bool} : okD n (.bl i) = true := by cases n <;> rfl
theorem okD_tup {α : Type} (enc : α → D) {n : Nat} {xs : List α} (h : ∀ x ∈ xs, okD n (enc x) = true) : okD (n + 1) (.tup (xs.map enc)) = true := by rw [okD]; exact okDs_map enc h
theorem okD_lst {α : Type} (enc : α → D) {n : Nat} {xs : List α} (h : ∀ x ∈ xs, okD n (enc x) = true) : okD (n + 1) (.lst (xs.map enc)) = true := by rw [okD]; exact okDs_map enc h
theorem okD_ints {n : Nat} {xs : List Int} : okD (n + 1) (.tup (xs.map .int)) = true := okD_tup D.int fun _ _ => okD_int
theorem okD_intsL {n : Nat} {xs : List Int} : okD (n + 1) (.lst (xs.map .int)) = true := okD_lst D.int fun _ _ => okD_int
theorem okDs_intsN {n : Nat} {xs : List Int} : okDs n (xs.map .int) = true := okDs_map D.int fun _ _ => okD_int
/-- two things that aren't tracked, held beside each other -/
theorem fEq_tup {neg : Bool} {xs ys : List D} {g : GH} {Q : QK} (hx : okDs 63 xs = true) (hy : okDs 63 ys = true) (q : Q (.v (.bl (neg ^^ deq (.tup xs) (.tup ys)))) g) : fEq neg (.v (.tup xs)) (.v (.tup ys)) g Q :=
  ⟨_, _, rfl, rfl, by rw [R.fz_v, okD]; exact hx, by rw [R.fz_v, okD]; exact hy, q⟩
theorem fEq_ints {neg : Bool} {xs ys : List Int} {g : GH} {Q : QK} (q : Q (.v (.bl (neg ^^ (xs == ys)))) g) : fEq neg (.v (.tup (xs.map .int))) (.v (.tup (ys.map .int))) g Q :=
  fEq_tup okDs_intsN okDs_intsN (by rw [deq_ints]; exact q)
theorem fEq_bl {neg : Bool} {x y : Bool} {g : GH} {Q : QK} (q : Q (.v (.bl (neg ^^ (x == y)))) g) : fEq neg (.v (.bl x)) (.v (.bl y)) g Q :=
  ⟨_, _, rfl, rfl, okD_bl, okD_bl, q⟩
theorem atI_map_last {α β : Type} (f : α → β) {xs : List α} (h : 0 < xs.length) : ∃ x, x ∈ xs ∧ xs[xs.length - 1]? = some x ∧ L2.atI (xs.map f) (-1) = some (f x) := by
  have e : ixN (xs.map f).length (-1) = some (xs.length - 1) := by
    unfold ixN
    rw [if_neg (by omega), List.length_map, if_pos (by omega)]
    congr 1
    omega
  have hl : xs.length - 1 < xs.length := by omega
  refine ⟨xs[xs.length - 1]'hl, List.getElem_mem _, List.getElem?_eq_getElem _, ?_⟩
  unfold L2.atI
  rw [e, Option.bind_some, List.getElem?_map, List.getElem?_eq_getElem hl]
  rfl
theorem filter_take_succ {α : Type} (p : α → Bool) {xs : List α} {k : Nat} {x : α} (h : xs[k]? = some x) : (xs.take (k + 1)).filter p = (xs.take k).filter p ++ (if p x then [x] else []) := by
  rw [List.take_add_one, h, List.filter_append]
  simp [List.filter_cons]
/-! ### what is shown of data -/
/-- data nested n at the most, of a weight below w, its numbers short -/
def Sh (n w : Nat) (d : D) : Prop := okD n d = true ∧ (pd d).intsShort 13 = true ∧ (pd d).showable = true ∧ (pd d).weight ≤ w
theorem log2_12 {i : Int} (h : i.natAbs < 10 ^ 12) : i.natAbs.log2 < 40 := by
  by_cases e : i.natAbs = 0
  · rw [e]; decide
  · exact (Nat.log2_lt e).mpr (Nat.lt_trans h (by decide))
theorem Sh.int {n : Nat} {i : Int} (h : i.natAbs < 10 ^ 12) : Sh n 40 (.int i) := by
  refine ⟨okD_int, ?_, ?_, ?_⟩
  · simpa only [pd, PyData.intsShort, decide_eq_true_eq] using PyData.shown_int_le h
  · have := log2_12 h
    simp only [pd, PyData.showable, decide_eq_true_eq]; omega
  · have := log2_12 h
    simp only [pd, PyData.weight]
    split <;> omega
theorem Sh.bl {n : Nat} {b : Bool} : Sh n 0 (.bl b) := ⟨okD_bl, rfl, rfl, Nat.le_refl _⟩
theorem Sh.non {n : Nat} : Sh n 0 .non := ⟨by cases n <;> rfl, rfl, rfl, Nat.le_refl _⟩
theorem Sh.str {n w : Nat} {x : Str} (h : PyData.strOk x = true) (hw : x.length ≤ w) : Sh n w (.str x) := ⟨by cases n <;> exact h, rfl, rfl, hw⟩
theorem Sh.up {n m w u : Nat} {d : D} (h : Sh n w d) (hn : n ≤ m) (hw : w ≤ u) : Sh m u d := ⟨okD_more n m hn d h.1, h.2.1, h.2.2.1, Nat.le_trans h.2.2.2 hw⟩
theorem Sh.alls {α : Type} (enc : α → D) {n w : Nat} : ∀ {xs : List α}, (∀ x ∈ xs, Sh n w (enc x)) → okDs n (xs.map enc) = true ∧ PyData.intsShortAll 13 (pds (xs.map enc)) = true ∧ PyData.showableAll (pds (xs.map enc)) = true ∧ PyData.weightAll (pds (xs.map enc)) ≤ xs.length * (w + 1)
  | [], _ => ⟨by simp [okDs], rfl, rfl, by simp [pds, PyData.weightAll]⟩
  | x :: xs, h => by
    obtain ⟨a1, a2, a3, a4⟩ := h x List.mem_cons_self
    obtain ⟨b1, b2, b3, b4⟩ := Sh.alls enc fun y hy => h y (List.mem_cons_of_mem _ hy)
    refine ⟨by simp only [List.map_cons, okDs, a1, b1, Bool.and_self], by simp only [List.map_cons, pds, PyData.intsShortAll, a2, b2, Bool.and_self], by simp only [List.map_cons, pds, PyData.showableAll, a3, b3, Bool.and_self], ?_⟩
    simp only [List.map_cons, pds, PyData.weightAll, List.length_cons, Nat.add_mul, Nat.one_mul]
    omega
theorem Sh.tup {α : Type} (enc : α → D) {n w : Nat} {xs : List α} (h : ∀ x ∈ xs, Sh n w (enc x)) : Sh (n + 1) (xs.length * (w + 1)) (.tup (xs.map enc)) := by
  obtain ⟨b1, b2, b3, b4⟩ := Sh.alls enc h
  exact ⟨by rw [okD]; exact b1, by rw [pd, PyData.intsShort]; exact b2, by rw [pd, PyData.showable]; exact b3, by rw [pd, PyData.weight]; exact b4⟩
theorem Sh.lst {α : Type} (enc : α → D) {n w : Nat} {xs : List α} (h : ∀ x ∈ xs, Sh n w (enc x)) : Sh (n + 1) (xs.length * (w + 1)) (.lst (xs.map enc)) := by
  obtain ⟨b1, b2, b3, b4⟩ := Sh.alls enc h
  exact ⟨by rw [okD]; exact b1, by rw [pd, PyData.intsShort]; exact b2, by rw [pd, PyData.showable]; exact b3, by rw [pd, PyData.weight]; exact b4⟩
theorem Sh.len {n w : Nat} {d : D} (h : Sh n w d) (hn : n ≤ 60) (hw : w ≤ 1048576) : (pd d).shown.length ≤ sizeLine :=
  PyData.shown_fits (B := 13) (by decide) (by decide) (PyData.leavesShort_of_canLay0 13 _ (okD_lay n d h.1).1 h.2.1) (Nat.le_trans h.2.2.2 (by omega))
/-- repr of a thing that is seen as d -/
theorem repr_sh {n w : Nat} {g : GH} {z d : D} {Q : QK} (hr : resR g (.v z) d) (h : Sh n w d) (hn : n ≤ 60) (hw : w ≤ 1048576) (q : Q (.v (.str (pd d).shown)) g) : Bfn.f .repr [z] g Q :=
  ⟨d, hr, okD_more n 60 hn d h.1, h.2.2.1, h.len hn hw, q⟩
/-- isinstance of a tracked list -/
theorem isi_ref {p : Addr} {xs : List D} {g : GH} {Q : QK} (h : g p = some (.lst xs)) (q : Q (.v (.bl true)) g) : Bfn.f (.isi "list") [.ref p, .ty "list"] g Q := ⟨rfl, by decide, "list", .inl ⟨xs, h, rfl⟩, q⟩
theorem Sh.three {n w : Nat} {d : D} {P : Prop} (h : Sh n w d) (hn : n ≤ 60) (hw : w ≤ 1048576) (q : P) : okD 60 d = true ∧ (pd d).showable = true ∧ (pd d).shown.length ≤ 16777216 ∧ P :=
  ⟨okD_more n 60 hn d h.1, h.2.2.1, h.len hn hw, q⟩
theorem isiB_bb : isiB "bool" "bool" = true := by decide
theorem isiB_ll : isiB "list" "list" = true := by decide
theorem isiB_tt : isiB "tuple" "tuple" = true := by decide
theorem fEq_intsR {neg : Bool} {x y : R} {xs ys : List Int} {g : GH} {Q : QK} (hx : resR g x (.lst (xs.map .int))) (hy : resR g y (.lst (ys.map .int))) (q : Q (.v (.bl (neg ^^ (xs == ys)))) g) : fEq neg x y g Q :=
  ⟨_, _, hx, hy, okD_intsL, okD_intsL, by rw [deq_intsL]; exact q⟩
theorem resR_ref {g : GH} {p : Addr} {xs : List D} (h : g p = some (.lst xs)) : resR g (.v (.ref p)) (.lst xs) := ⟨xs, h, rfl⟩
/-! ### the same as equations, for the walk -/
theorem eIn_tI {neg : Bool} {s : Int} {xs : List Int} {g : GH} {Q : QK} : fIn neg (.v (.int s)) (.v (.tup (xs.map .int))) g Q = Q (.v (.bl (neg ^^ xs.contains s))) g :=
  propext ⟨fun ⟨a, h, _, _, q⟩ => by
    rcases h with h | h | h
    · exact h.elim
    · rw [show a = xs.map D.int from h, R.fz_v, inD_ints] at q
      cases neg <;> simpa using q
    · exact h.elim, fIn_ints⟩
theorem eIn_lI {neg : Bool} {s : Int} {xs : List Int} {g : GH} {Q : QK} : fIn neg (.v (.int s)) (.v (.lst (xs.map .int))) g Q = Q (.v (.bl (neg ^^ xs.contains s))) g :=
  propext ⟨fun ⟨a, h, _, _, q⟩ => by
    rcases h with h | h | h
    · rw [show a = xs.map D.int from h, R.fz_v, inD_ints] at q
      cases neg <;> simpa using q
    · exact h.elim
    · exact h.elim, fIn_intsL rfl⟩
theorem eIn_rI {neg : Bool} {s : Int} {xs : List Int} {p : Addr} {g : GH} {Q : QK} (hp : g p = some (.lst (xs.map .int))) : fIn neg (.v (.int s)) (.v (.ref p)) g Q = Q (.v (.bl (neg ^^ xs.contains s))) g :=
  propext ⟨fun ⟨a, h, _, _, q⟩ => by
    rcases h with h | h | h
    · have h : g p = some (.lst a) := h
      rw [hp] at h; cases h
      rw [R.fz_v, inD_ints] at q
      cases neg <;> simpa using q
    · exact h.elim
    · exact h.elim, fIn_intsL hp⟩
theorem resR_v {g : GH} {d e : D} (h : ∀ a, d ≠ .ref a) : resR g (.v d) e ↔ e = d := by cases d <;> first | exact Iff.rfl | exact absurd rfl (h _)
theorem eEq_v {neg : Bool} {x y : D} {g : GH} {Q : QK} (hx : ∀ a, x ≠ .ref a) (hy : ∀ a, y ≠ .ref a) : fEq neg (.v x) (.v y) g Q = (okD 64 x = true ∧ okD 64 y = true ∧ Q (.v (.bl (neg ^^ deq x y))) g) :=
  propext ⟨fun ⟨d, e, h1, h2, h⟩ => by rw [resR_v hx] at h1; rw [resR_v hy] at h2; subst h1 h2; exact h, fun h => ⟨x, y, (resR_v hx).mpr rfl, (resR_v hy).mpr rfl, h⟩⟩
theorem eEq_tI {neg : Bool} {xs ys : List Int} {g : GH} {Q : QK} : fEq neg (.v (.tup (xs.map .int))) (.v (.tup (ys.map .int))) g Q = Q (.v (.bl (neg ^^ (xs == ys)))) g := by
  rw [eEq_v (fun _ h => by cases h) (fun _ h => by cases h), deq_ints]
  exact propext ⟨fun h => h.2.2, fun h => ⟨okD_ints, okD_ints, h⟩⟩
theorem eEq_lI {neg : Bool} {xs ys : List Int} {g : GH} {Q : QK} : fEq neg (.v (.lst (xs.map .int))) (.v (.lst (ys.map .int))) g Q = Q (.v (.bl (neg ^^ (xs == ys)))) g := by
  rw [eEq_v (fun _ h => by cases h) (fun _ h => by cases h), deq_intsL]
  exact propext ⟨fun h => h.2.2, fun h => ⟨okD_intsL, okD_intsL, h⟩⟩
theorem eEq_tl {neg : Bool} {x : R} {ys : List D} {g : GH} {Q : QK} : fEq neg x (.tl ys) g Q = fEq neg x (.v (.lst ys)) g Q := rfl
theorem eEq_tl' {neg : Bool} {y : R} {ys : List D} {g : GH} {Q : QK} : fEq neg (.tl ys) y g Q = fEq neg (.v (.lst ys)) y g Q := rfl
theorem eEq_bl {neg : Bool} {x y : Bool} {g : GH} {Q : QK} : fEq neg (.v (.bl x)) (.v (.bl y)) g Q = Q (.v (.bl (neg ^^ (x == y)))) g := by
  rw [eEq_v (fun _ h => by cases h) (fun _ h => by cases h), deq_bl]
  exact propext ⟨fun h => h.2.2, fun h => ⟨okD_bl, okD_bl, h⟩⟩
theorem eEq_tN {neg : Bool} {xs : List Int} {g : GH} {Q : QK} : fEq neg (.v (.tup (xs.map .int))) (.v (.tup [])) g Q = Q (.v (.bl (neg ^^ (xs == [])))) g := eEq_tI (ys := [])
theorem eEq_lN {neg : Bool} {xs : List Int} {g : GH} {Q : QK} : fEq neg (.v (.lst (xs.map .int))) (.v (.lst [])) g Q = Q (.v (.bl (neg ^^ (xs == [])))) g := eEq_lI (ys := [])
theorem eEq_int {neg : Bool} {x y : Int} {g : GH} {Q : QK} : fEq neg (.v (.int x)) (.v (.int y)) g Q = Q (.v (.bl (neg ^^ (x == y)))) g := by
  rw [eEq_v (fun _ h => by cases h) (fun _ h => by cases h), deq_int]
  exact propext ⟨fun h => h.2.2, fun h => ⟨okD_int, okD_int, h⟩⟩
end G3
/-! W1: the laws' shared defs: draws -/
namespace G3
open PySem L2
local macro_rules | `(tactic| walk_at "wp") => `(tactic| simp only [wSs, wS, wE, wL, wO, wSq, wRet, wRetN, wAsg, wIf, wDrop, wFor, wPut, wNx, wArgs, wCons, wNil, wCall, wComp, wI, wB, wSeqT, wSeqL, wRng1, wRng2, wEnumL, wEnumT, wVar, wC, wBin, wUn, wNot, wAnd, wOr, wIte, wTest, wTrk, wSlc, wNoPart, wPart, fMt, List.getElem?_cons_succ, List.getElem?_cons_zero, tupOf, lstOf, gdOf, ex_eq, ex_eq', ex2_eq, ex2_eq', Bfn.f, Mth.f, compT, tgB, setAll, wipeD, wYes, List.map_cons, List.map_nil, List.set_cons_succ, List.set_cons_zero, List.length_cons, List.length_nil, Bop.f, Cop.f, Iop.f, fI2, fS2, fIx, fNeg, true_and, and_true, if_true, bodyEnds, R.fz_v, R.fz_tl, atI_0, atI_1, atI_2, atI_3, Option.some.injEq, DO.lst.injEq, decide_eq_true_eq, gup_same, gup_gup, or_false, ixN_s0, ixN_s1, ixN_s2, List.length_set, List.length_map, szl, Nat.reduceAdd, Nat.zero_add, Nat.reduceLeDiff, Nat.zero_le, Int.reduceLE, exists_eq', false_or, fAddT, fAddL, fSl, rolOf, Bool.not_true, Bool.not_false, Bool.false_eq_true, if_false, Bool.false_xor, Bool.xor_true, beq_self_eq_true, isiB_bb, isiB_ll, decide_true, isiB_tt, fIsN, isNon, wTry, wCallv, wRaise, setO, gonO, tryEnds, wMk, wMkAt, wAt, wRaiseAt, isKd, Mth.kd, eq_self, wDis, wDnK, wDnT, wDput, wPar, wRngD, wFld, wMeth, wNew, wSfld, wCh3, wPar3, wRevL, wDputM, wText, fInT, wIng, wSfld2, wDead])
local macro_rules | `(tactic| walk_at "stp") => `(tactic| first | (rw [wHid_eq]; conv in (wSs _) => arg 1; whnf) | (conv in (wSs _) => arg 1; whnf))
local macro_rules | `(tactic| walk_at "wx") => `(tactic| simp only [wSs, wS, wE, wL, wO, wSq, wRet, wRetN, wAsg, wIf, wDrop, wFor, wPut, wNx, wArgs, wCons, wNil, wCall, wComp, wI, wB, wSeqT, wSeqL, wRng1, wRng2, wEnumL, wEnumT, wVar, wC, wBin, wUn, wNot, wAnd, wOr, wIte, wTest, wTrk, wSlc, wNoPart, wPart, fMt, List.getElem?_cons_succ, List.getElem?_cons_zero, tupOf, lstOf, gdOf, ex_eq, ex_eq', ex2_eq, ex2_eq', Bfn.f, Mth.f, compT, tgB, setAll, wipeD, wYes, List.map_cons, List.map_nil, List.set_cons_succ, List.set_cons_zero, List.length_cons, List.length_nil, Bop.f, Cop.f, Iop.f, fI2, fS2, fIx, fNeg, true_and, and_true, if_true, bodyEnds, R.fz_v, R.fz_tl, atI_0, atI_1, atI_2, atI_3, Option.some.injEq, DO.lst.injEq, decide_eq_true_eq, gup_same, gup_gup, or_false, ixN_s0, ixN_s1, ixN_s2, List.length_set, List.length_map, szl, Nat.reduceAdd, Nat.zero_add, Nat.reduceLeDiff, Nat.zero_le, Int.reduceLE, exists_eq', false_or, fAddT, fAddL, fSl, rolOf, Bool.not_true, Bool.not_false, Bool.false_eq_true, if_false, Bool.false_xor, Bool.xor_true, beq_self_eq_true, isiB_bb, isiB_ll, decide_true, isiB_tt, fIsN, isNon, wTry, wCallv, wRaise, setO, gonO, tryEnds, wMk, wMkAt, wAt, wRaiseAt, isKd, Mth.kd, eq_self, wDis, wDnK, wDnT, wDput, wPar, wRngD, wFld, wMeth, wNew, wSfld, wCh3, wPar3, wRevL, wDputM, wText, fInT, wIng, wSfld2, wDead, eIn_tI, eIn_lI, eEq_tI, eEq_lI, eEq_tl, eEq_tl', eEq_bl, eEq_tN, eEq_lN, fIsE, Ufn.f, fSSet, fLSet, if_true, if_false, Bool.true_xor, Bool.xor_false, seqOf, fIxA, fSlA, fAddA, fInA, wSeqA, wEnumA, isKd, Mth.kd, fB2, okD_int, okD_bl, okDs_intsN, inD_ints, fRepL, fAddS, fIxS, eEq_int, wCh, fLRng, fRevT, fRow2, fTRng, fLSetT])
theorem gle_rfl {g : GH} : ∀ b o, g b = some o → g b = some o := fun _ _ h => h
theorem gle_up {g g' : GH} {p : Addr} {u : DO} (h : ∀ b o, g b = some o → g' b = some o) (f : g' p = none) : ∀ b o, g b = some o → gup g' p u b = some o := fun b o e => by
  have q := h b o e
  rw [gup_ne fun z => by rw [z, f] at q; cases q]
  exact q
abbrev cl (c : List Int) : D := .tup (c.map .int)
abbrev cls (cs : List (List Int)) : D := .tup (cs.map cl)
end G3

/-! D1: what is a claim -/
namespace G3
open PySem L2
local macro_rules | `(tactic| walk_at "wp") => `(tactic| simp only [wSs, wS, wE, wL, wO, wSq, wRet, wRetN, wAsg, wIf, wDrop, wFor, wPut, wNx, wArgs, wCons, wNil, wCall, wComp, wI, wB, wSeqT, wSeqL, wRng1, wRng2, wEnumL, wEnumT, wVar, wC, wBin, wUn, wNot, wAnd, wOr, wIte, wTest, wTrk, wSlc, wNoPart, wPart, fMt, List.getElem?_cons_succ, List.getElem?_cons_zero, tupOf, lstOf, gdOf, ex_eq, ex_eq', ex2_eq, ex2_eq', Bfn.f, Mth.f, compT, tgB, setAll, wipeD, wYes, List.map_cons, List.map_nil, List.set_cons_succ, List.set_cons_zero, List.length_cons, List.length_nil, Bop.f, Cop.f, Iop.f, fI2, fS2, fIx, fNeg, true_and, and_true, if_true, bodyEnds, R.fz_v, R.fz_tl, atI_0, atI_1, atI_2, atI_3, Option.some.injEq, DO.lst.injEq, decide_eq_true_eq, gup_same, gup_gup, or_false, ixN_s0, ixN_s1, ixN_s2, List.length_set, List.length_map, szl, Nat.reduceAdd, Nat.zero_add, Nat.reduceLeDiff, Nat.zero_le, Int.reduceLE, exists_eq', false_or, fAddT, fAddL, fSl, rolOf, Bool.not_true, Bool.not_false, Bool.false_eq_true, if_false, Bool.false_xor, Bool.xor_true, beq_self_eq_true, isiB_bb, isiB_ll, decide_true, isiB_tt, fIsN, isNon, wTry, wCallv, wRaise, setO, gonO, tryEnds, wMk, wMkAt, wAt, wRaiseAt, isKd, Mth.kd, eq_self, wDis, wDnK, wDnT, wDput, wPar, wRngD, wFld, wMeth, wNew, wSfld, wCh3, wPar3, wRevL, wDputM, wText, fInT, wIng, wSfld2, wDead])
local macro_rules | `(tactic| walk_at "stp") => `(tactic| first | (rw [wHid_eq]; conv in (wSs _) => arg 1; whnf) | (conv in (wSs _) => arg 1; whnf))
local macro_rules | `(tactic| walk_at "wx") => `(tactic| simp only [wSs, wS, wE, wL, wO, wSq, wRet, wRetN, wAsg, wIf, wDrop, wFor, wPut, wNx, wArgs, wCons, wNil, wCall, wComp, wI, wB, wSeqT, wSeqL, wRng1, wRng2, wEnumL, wEnumT, wVar, wC, wBin, wUn, wNot, wAnd, wOr, wIte, wTest, wTrk, wSlc, wNoPart, wPart, fMt, List.getElem?_cons_succ, List.getElem?_cons_zero, tupOf, lstOf, gdOf, ex_eq, ex_eq', ex2_eq, ex2_eq', Bfn.f, Mth.f, compT, tgB, setAll, wipeD, wYes, List.map_cons, List.map_nil, List.set_cons_succ, List.set_cons_zero, List.length_cons, List.length_nil, Bop.f, Cop.f, Iop.f, fI2, fS2, fIx, fNeg, true_and, and_true, if_true, bodyEnds, R.fz_v, R.fz_tl, atI_0, atI_1, atI_2, atI_3, Option.some.injEq, DO.lst.injEq, decide_eq_true_eq, gup_same, gup_gup, or_false, ixN_s0, ixN_s1, ixN_s2, List.length_set, List.length_map, szl, Nat.reduceAdd, Nat.zero_add, Nat.reduceLeDiff, Nat.zero_le, Int.reduceLE, exists_eq', false_or, fAddT, fAddL, fSl, rolOf, Bool.not_true, Bool.not_false, Bool.false_eq_true, if_false, Bool.false_xor, Bool.xor_true, beq_self_eq_true, isiB_bb, isiB_ll, decide_true, isiB_tt, fIsN, isNon, wTry, wCallv, wRaise, setO, gonO, tryEnds, wMk, wMkAt, wAt, wRaiseAt, isKd, Mth.kd, eq_self, wDis, wDnK, wDnT, wDput, wPar, wRngD, wFld, wMeth, wNew, wSfld, wCh3, wPar3, wRevL, wDputM, wText, fInT, wIng, wSfld2, wDead, eIn_tI, eIn_lI, eEq_tI, eEq_lI, eEq_tl, eEq_tl', eEq_bl, eEq_tN, eEq_lN, fIsE, Ufn.f, fSSet, fLSet, if_true, if_false, Bool.true_xor, Bool.xor_false, seqOf, fIxA, fSlA, fAddA, fInA, wSeqA, wEnumA, isKd, Mth.kd, fB2, okD_int, okD_bl, okDs_intsN, inD_ints, fRepL, fAddS, fIxS, eEq_int, wCh, fLRng, fRevT, fRow2, fTRng, fLSetT])
def b_is_whole : Sl := .cons (.ret (.and (.blf (.isi "int") (.cons (.var 0) (.cons (.blt "int" "int") (.nil)))) (.not (.blf (.isi "bool") (.cons (.var 0) (.cons (.blt "bool" "bool") (.nil))))))) (.nil)
def isWholeB : D → Bool
  | .int _ => true
  | _ => false
/-- a thing of a kind that is known -/
def Knd (g : GH) (d : D) : Prop := ∃ t, tyN g d t
def sp_is_whole : GSp := fun ds g Q _ => ∃ d, ds = [d] ∧ Knd g d ∧ Q (.v (.bl (isWholeB d))) g
theorem w_is_whole : ∀ ds g Q W, sp_is_whole ds g Q W → wSs b_is_whole (bodyEnds g Q W) (startD 1 ds) g := by
  rintro ds g Q W ⟨d, rfl, ⟨t, ht⟩, h⟩
  change wSs _ _ [some _] g
  walk_at "stp"; walk_at "wx"
  refine ⟨by decide, t, ht, ?_⟩
  have e : isWholeB d = (isiB t "int" && !isiB t "bool") := by
    cases d with
    | ty _ => exact ht.elim
    | gl _ => exact ht.elim
    | exc _ _ => exact ht.elim
    | ref a => rcases ht with ⟨_, _, rfl⟩ | ⟨_, _, rfl⟩ | ⟨_, _, rfl⟩ <;> (show false = _; decide)
    | _ => cases ht; first | (show true = _; decide) | (show false = _; decide)
  rw [e] at h
  cases h1 : isiB t "int" with
  | false =>
    rw [h1] at h
    exact .same h
  | true =>
    rw [h1, Bool.true_and] at h
    rw [if_pos rfl]
    exact ⟨by decide, t, ht, .same h⟩
end G3

/-! G2: rows, as the laws go through them -/
namespace G3
open PySem L2
local macro_rules | `(tactic| walk_at "wp") => `(tactic| simp only [wSs, wS, wE, wL, wO, wSq, wRet, wRetN, wAsg, wIf, wDrop, wFor, wPut, wNx, wArgs, wCons, wNil, wCall, wComp, wI, wB, wSeqT, wSeqL, wRng1, wRng2, wEnumL, wEnumT, wVar, wC, wBin, wUn, wNot, wAnd, wOr, wIte, wTest, wTrk, wSlc, wNoPart, wPart, fMt, List.getElem?_cons_succ, List.getElem?_cons_zero, tupOf, lstOf, gdOf, ex_eq, ex_eq', ex2_eq, ex2_eq', Bfn.f, Mth.f, compT, tgB, setAll, wipeD, wYes, List.map_cons, List.map_nil, List.set_cons_succ, List.set_cons_zero, List.length_cons, List.length_nil, Bop.f, Cop.f, Iop.f, fI2, fS2, fIx, fNeg, true_and, and_true, if_true, bodyEnds, R.fz_v, R.fz_tl, atI_0, atI_1, atI_2, atI_3, Option.some.injEq, DO.lst.injEq, decide_eq_true_eq, gup_same, gup_gup, or_false, ixN_s0, ixN_s1, ixN_s2, List.length_set, List.length_map, szl, Nat.reduceAdd, Nat.zero_add, Nat.reduceLeDiff, Nat.zero_le, Int.reduceLE, exists_eq', false_or, fAddT, fAddL, fSl, rolOf, Bool.not_true, Bool.not_false, Bool.false_eq_true, if_false, Bool.false_xor, Bool.xor_true, beq_self_eq_true, isiB_bb, isiB_ll, decide_true, isiB_tt, fIsN, isNon, wTry, wCallv, wRaise, setO, gonO, tryEnds, wMk, wMkAt, wAt, wRaiseAt, isKd, Mth.kd, eq_self, wDis, wDnK, wDnT, wDput, wPar, wRngD, wFld, wMeth, wNew, wSfld, wCh3, wPar3, wRevL, wDputM, wText, fInT, wIng, wSfld2, wDead])
local macro_rules | `(tactic| walk_at "stp") => `(tactic| first | (rw [wHid_eq]; conv in (wSs _) => arg 1; whnf) | (conv in (wSs _) => arg 1; whnf))
local macro_rules | `(tactic| walk_at "wx") => `(tactic| simp only [wSs, wS, wE, wL, wO, wSq, wRet, wRetN, wAsg, wIf, wDrop, wFor, wPut, wNx, wArgs, wCons, wNil, wCall, wComp, wI, wB, wSeqT, wSeqL, wRng1, wRng2, wEnumL, wEnumT, wVar, wC, wBin, wUn, wNot, wAnd, wOr, wIte, wTest, wTrk, wSlc, wNoPart, wPart, fMt, List.getElem?_cons_succ, List.getElem?_cons_zero, tupOf, lstOf, gdOf, ex_eq, ex_eq', ex2_eq, ex2_eq', Bfn.f, Mth.f, compT, tgB, setAll, wipeD, wYes, List.map_cons, List.map_nil, List.set_cons_succ, List.set_cons_zero, List.length_cons, List.length_nil, Bop.f, Cop.f, Iop.f, fI2, fS2, fIx, fNeg, true_and, and_true, if_true, bodyEnds, R.fz_v, R.fz_tl, atI_0, atI_1, atI_2, atI_3, Option.some.injEq, DO.lst.injEq, decide_eq_true_eq, gup_same, gup_gup, or_false, ixN_s0, ixN_s1, ixN_s2, List.length_set, List.length_map, szl, Nat.reduceAdd, Nat.zero_add, Nat.reduceLeDiff, Nat.zero_le, Int.reduceLE, exists_eq', false_or, fAddT, fAddL, fSl, rolOf, Bool.not_true, Bool.not_false, Bool.false_eq_true, if_false, Bool.false_xor, Bool.xor_true, beq_self_eq_true, isiB_bb, isiB_ll, decide_true, isiB_tt, fIsN, isNon, wTry, wCallv, wRaise, setO, gonO, tryEnds, wMk, wMkAt, wAt, wRaiseAt, isKd, Mth.kd, eq_self, wDis, wDnK, wDnT, wDput, wPar, wRngD, wFld, wMeth, wNew, wSfld, wCh3, wPar3, wRevL, wDputM, wText, fInT, wIng, wSfld2, wDead, eIn_tI, eIn_lI, eEq_tI, eEq_lI, eEq_tl, eEq_tl', eEq_bl, eEq_tN, eEq_lN, fIsE, Ufn.f, fSSet, fLSet, if_true, if_false, Bool.true_xor, Bool.xor_false, seqOf, fIxA, fSlA, fAddA, fInA, wSeqA, wEnumA, isKd, Mth.kd, fB2, okD_int, okD_bl, okDs_intsN, inD_ints, fRepL, fAddS, fIxS, eEq_int, wCh, fLRng, fRevT, fRow2, fTRng, fLSetT])
/-- the cut rows of two rows, the ones that can be -/
def wayD (i j k : Int) : D := .tup [.str "cut", .int i, .int j, .int k]
def bookD (n : Int) : D := .tup [.str "book", .int n]
end G3

/-! H1: claims and heights of ladders -/
namespace G3
open PySem L2
local macro_rules | `(tactic| walk_at "wp") => `(tactic| simp only [wSs, wS, wE, wL, wO, wSq, wRet, wRetN, wAsg, wIf, wDrop, wFor, wPut, wNx, wArgs, wCons, wNil, wCall, wComp, wI, wB, wSeqT, wSeqL, wRng1, wRng2, wEnumL, wEnumT, wVar, wC, wBin, wUn, wNot, wAnd, wOr, wIte, wTest, wTrk, wSlc, wNoPart, wPart, fMt, List.getElem?_cons_succ, List.getElem?_cons_zero, tupOf, lstOf, gdOf, ex_eq, ex_eq', ex2_eq, ex2_eq', Bfn.f, Mth.f, compT, tgB, setAll, wipeD, wYes, List.map_cons, List.map_nil, List.set_cons_succ, List.set_cons_zero, List.length_cons, List.length_nil, Bop.f, Cop.f, Iop.f, fI2, fS2, fIx, fNeg, true_and, and_true, if_true, bodyEnds, R.fz_v, R.fz_tl, atI_0, atI_1, atI_2, atI_3, Option.some.injEq, DO.lst.injEq, decide_eq_true_eq, gup_same, gup_gup, or_false, ixN_s0, ixN_s1, ixN_s2, List.length_set, List.length_map, szl, Nat.reduceAdd, Nat.zero_add, Nat.reduceLeDiff, Nat.zero_le, Int.reduceLE, exists_eq', false_or, fAddT, fAddL, fSl, rolOf, Bool.not_true, Bool.not_false, Bool.false_eq_true, if_false, Bool.false_xor, Bool.xor_true, beq_self_eq_true, isiB_bb, isiB_ll, decide_true, isiB_tt, fIsN, isNon, wTry, wCallv, wRaise, setO, gonO, tryEnds, wMk, wMkAt, wAt, wRaiseAt, isKd, Mth.kd, eq_self, wDis, wDnK, wDnT, wDput, wPar, wRngD, wFld, wMeth, wNew, wSfld, wCh3, wPar3, wRevL, wDputM, wText, fInT, wIng, wSfld2, wDead])
local macro_rules | `(tactic| walk_at "stp") => `(tactic| first | (rw [wHid_eq]; conv in (wSs _) => arg 1; whnf) | (conv in (wSs _) => arg 1; whnf))
local macro_rules | `(tactic| walk_at "wx") => `(tactic| simp only [wSs, wS, wE, wL, wO, wSq, wRet, wRetN, wAsg, wIf, wDrop, wFor, wPut, wNx, wArgs, wCons, wNil, wCall, wComp, wI, wB, wSeqT, wSeqL, wRng1, wRng2, wEnumL, wEnumT, wVar, wC, wBin, wUn, wNot, wAnd, wOr, wIte, wTest, wTrk, wSlc, wNoPart, wPart, fMt, List.getElem?_cons_succ, List.getElem?_cons_zero, tupOf, lstOf, gdOf, ex_eq, ex_eq', ex2_eq, ex2_eq', Bfn.f, Mth.f, compT, tgB, setAll, wipeD, wYes, List.map_cons, List.map_nil, List.set_cons_succ, List.set_cons_zero, List.length_cons, List.length_nil, Bop.f, Cop.f, Iop.f, fI2, fS2, fIx, fNeg, true_and, and_true, if_true, bodyEnds, R.fz_v, R.fz_tl, atI_0, atI_1, atI_2, atI_3, Option.some.injEq, DO.lst.injEq, decide_eq_true_eq, gup_same, gup_gup, or_false, ixN_s0, ixN_s1, ixN_s2, List.length_set, List.length_map, szl, Nat.reduceAdd, Nat.zero_add, Nat.reduceLeDiff, Nat.zero_le, Int.reduceLE, exists_eq', false_or, fAddT, fAddL, fSl, rolOf, Bool.not_true, Bool.not_false, Bool.false_eq_true, if_false, Bool.false_xor, Bool.xor_true, beq_self_eq_true, isiB_bb, isiB_ll, decide_true, isiB_tt, fIsN, isNon, wTry, wCallv, wRaise, setO, gonO, tryEnds, wMk, wMkAt, wAt, wRaiseAt, isKd, Mth.kd, eq_self, wDis, wDnK, wDnT, wDput, wPar, wRngD, wFld, wMeth, wNew, wSfld, wCh3, wPar3, wRevL, wDputM, wText, fInT, wIng, wSfld2, wDead, eIn_tI, eIn_lI, eEq_tI, eEq_lI, eEq_tl, eEq_tl', eEq_bl, eEq_tN, eEq_lN, fIsE, Ufn.f, fSSet, fLSet, if_true, if_false, Bool.true_xor, Bool.xor_false, seqOf, fIxA, fSlA, fAddA, fInA, wSeqA, wEnumA, isKd, Mth.kd, fB2, okD_int, okD_bl, okDs_intsN, inD_ints, fRepL, fAddS, fIxS, eEq_int, wCh, fLRng, fRevT, fRow2, fTRng, fLSetT])
theorem deq_strE {w : D} {z : Str} (h : deq w (.str z) = true) : w = .str z := by
  cases w with
  | str y => rw [show y = z from eq_of_beq h]
  | _ => cases h
theorem feqT {neg : Bool} {x y : R} {d e : D} {g : GH} {Q : QK} (hx : resR g x d) (hy : resR g y e) (kx : okD 64 d = true) (ky : okD 64 e = true) (h : deq d e = true) (q : Q (.v (.bl (!neg))) g) : fEq neg x y g Q :=
  ⟨d, e, hx, hy, kx, ky, by rw [h]; cases neg <;> exact q⟩
theorem feqF {neg : Bool} {x y : R} {d e : D} {g : GH} {Q : QK} (hx : resR g x d) (hy : resR g y e) (kx : okD 64 d = true) (ky : okD 64 e = true) (h : deq d e = false) (q : Q (.v (.bl neg)) g) : fEq neg x y g Q :=
  ⟨d, e, hx, hy, kx, ky, by rw [h]; cases neg <;> exact q⟩
mutual
theorem eqv_self : ∀ d : D, PyData.eqv (pd d) (pd d) = true
  | .non => rfl
  | .bl b => by simp [pd, PyData.eqv]
  | .int i => by simp [pd, PyData.eqv]
  | .str x => by simp [pd, PyData.eqv]
  | .ty _ => rfl
  | .ref _ => rfl
  | .tup ds => by rw [pd, PyData.eqv]; exact eqvs_self ds
  | .lst ds => by rw [pd, PyData.eqv]; exact eqvs_self ds
  | .rl _ => rfl
  | .gl _ => rfl
  | .exc _ _ => rfl
theorem eqvs_self : ∀ ds : List D, PyData.eqvAll (pds ds) (pds ds) = true
  | [] => rfl
  | d :: ds => by rw [pds, PyData.eqvAll, eqv_self d, eqvs_self ds]; rfl
end
/-- a thing is as itself -/
theorem deq_self (d : D) : deq d d = true := eqv_self d
theorem feqS {neg : Bool} {x y : R} {d : D} {g : GH} {Q : QK} (hx : resR g x d) (hy : resR g y d) (k : okD 64 d = true) (q : Q (.v (.bl (!neg))) g) : fEq neg x y g Q := feqT hx hy k k (deq_self d) q
end G3

/-! G5: things that are shown, with great numbers too -/
namespace G3
open PySem L2
local macro_rules | `(tactic| walk_at "wp") => `(tactic| simp only [wSs, wS, wE, wL, wO, wSq, wRet, wRetN, wAsg, wIf, wDrop, wFor, wPut, wNx, wArgs, wCons, wNil, wCall, wComp, wI, wB, wSeqT, wSeqL, wRng1, wRng2, wEnumL, wEnumT, wVar, wC, wBin, wUn, wNot, wAnd, wOr, wIte, wTest, wTrk, wSlc, wNoPart, wPart, fMt, List.getElem?_cons_succ, List.getElem?_cons_zero, tupOf, lstOf, gdOf, ex_eq, ex_eq', ex2_eq, ex2_eq', Bfn.f, Mth.f, compT, tgB, setAll, wipeD, wYes, List.map_cons, List.map_nil, List.set_cons_succ, List.set_cons_zero, List.length_cons, List.length_nil, Bop.f, Cop.f, Iop.f, fI2, fS2, fIx, fNeg, true_and, and_true, if_true, bodyEnds, R.fz_v, R.fz_tl, atI_0, atI_1, atI_2, atI_3, Option.some.injEq, DO.lst.injEq, decide_eq_true_eq, gup_same, gup_gup, or_false, ixN_s0, ixN_s1, ixN_s2, List.length_set, List.length_map, szl, Nat.reduceAdd, Nat.zero_add, Nat.reduceLeDiff, Nat.zero_le, Int.reduceLE, exists_eq', false_or, fAddT, fAddL, fSl, rolOf, Bool.not_true, Bool.not_false, Bool.false_eq_true, if_false, Bool.false_xor, Bool.xor_true, beq_self_eq_true, isiB_bb, isiB_ll, decide_true, isiB_tt, fIsN, isNon, wTry, wCallv, wRaise, setO, gonO, tryEnds, wMk, wMkAt, wAt, wRaiseAt, isKd, Mth.kd, eq_self, wDis, wDnK, wDnT, wDput, wPar, wRngD, wFld, wMeth, wNew, wSfld, wCh3, wPar3, wRevL, wDputM, wText, fInT, wIng, wSfld2, wDead])
local macro_rules | `(tactic| walk_at "stp") => `(tactic| first | (rw [wHid_eq]; conv in (wSs _) => arg 1; whnf) | (conv in (wSs _) => arg 1; whnf))
local macro_rules | `(tactic| walk_at "wx") => `(tactic| simp only [wSs, wS, wE, wL, wO, wSq, wRet, wRetN, wAsg, wIf, wDrop, wFor, wPut, wNx, wArgs, wCons, wNil, wCall, wComp, wI, wB, wSeqT, wSeqL, wRng1, wRng2, wEnumL, wEnumT, wVar, wC, wBin, wUn, wNot, wAnd, wOr, wIte, wTest, wTrk, wSlc, wNoPart, wPart, fMt, List.getElem?_cons_succ, List.getElem?_cons_zero, tupOf, lstOf, gdOf, ex_eq, ex_eq', ex2_eq, ex2_eq', Bfn.f, Mth.f, compT, tgB, setAll, wipeD, wYes, List.map_cons, List.map_nil, List.set_cons_succ, List.set_cons_zero, List.length_cons, List.length_nil, Bop.f, Cop.f, Iop.f, fI2, fS2, fIx, fNeg, true_and, and_true, if_true, bodyEnds, R.fz_v, R.fz_tl, atI_0, atI_1, atI_2, atI_3, Option.some.injEq, DO.lst.injEq, decide_eq_true_eq, gup_same, gup_gup, or_false, ixN_s0, ixN_s1, ixN_s2, List.length_set, List.length_map, szl, Nat.reduceAdd, Nat.zero_add, Nat.reduceLeDiff, Nat.zero_le, Int.reduceLE, exists_eq', false_or, fAddT, fAddL, fSl, rolOf, Bool.not_true, Bool.not_false, Bool.false_eq_true, if_false, Bool.false_xor, Bool.xor_true, beq_self_eq_true, isiB_bb, isiB_ll, decide_true, isiB_tt, fIsN, isNon, wTry, wCallv, wRaise, setO, gonO, tryEnds, wMk, wMkAt, wAt, wRaiseAt, isKd, Mth.kd, eq_self, wDis, wDnK, wDnT, wDput, wPar, wRngD, wFld, wMeth, wNew, wSfld, wCh3, wPar3, wRevL, wDputM, wText, fInT, wIng, wSfld2, wDead, eIn_tI, eIn_lI, eEq_tI, eEq_lI, eEq_tl, eEq_tl', eEq_bl, eEq_tN, eEq_lN, fIsE, Ufn.f, fSSet, fLSet, if_true, if_false, Bool.true_xor, Bool.xor_false, seqOf, fIxA, fSlA, fAddA, fInA, wSeqA, wEnumA, isKd, Mth.kd, fB2, okD_int, okD_bl, okDs_intsN, inD_ints, fRepL, fAddS, fIxS, eEq_int, wCh, fLRng, fRevT, fRow2, fTRng, fLSetT])
/-- data nested n at the most, of a weight up to w, its numbers of up to forty-four signs -/
def Sx (n w : Nat) (d : D) : Prop := okD n d = true ∧ (pd d).intsShort 44 = true ∧ (pd d).showable = true ∧ (pd d).weight ≤ w
theorem Sx.up {n m w u : Nat} {d : D} (h : Sx n w d) (hn : n ≤ m) (hw : w ≤ u) : Sx m u d := ⟨okD_more n m hn d h.1, h.2.1, h.2.2.1, Nat.le_trans h.2.2.2 hw⟩
theorem Sx.int {n : Nat} {i : Int} (h : i.natAbs < 10 ^ 12) : Sx n 140 (.int i) := by
  obtain ⟨h1, h2, h3, h4⟩ := Sh.int (n := n) h
  refine ⟨h1, ?_, h3, by omega⟩
  simp only [pd, PyData.intsShort, decide_eq_true_eq] at h2 ⊢
  omega
theorem Sx.str {n w : Nat} {x : Str} (h : PyData.strOk x = true) (hw : x.length ≤ w) : Sx n w (.str x) := ⟨by cases n <;> exact h, rfl, rfl, hw⟩
def Sxs (n w : Nat) (ds : List D) : Prop := ∀ d ∈ ds, Sx n w d
theorem Sxs.alls {n w : Nat} : ∀ {xs : List D}, Sxs n w xs → okDs n xs = true ∧ PyData.intsShortAll 44 (pds xs) = true ∧ PyData.showableAll (pds xs) = true ∧ PyData.weightAll (pds xs) ≤ xs.length * (w + 1)
  | [], _ => ⟨by simp [okDs], rfl, rfl, by simp [pds, PyData.weightAll]⟩
  | x :: xs, h => by
    obtain ⟨a1, a2, a3, a4⟩ := h x List.mem_cons_self
    obtain ⟨b1, b2, b3, b4⟩ := Sxs.alls (xs := xs) fun y hy => h y (List.mem_cons_of_mem _ hy)
    refine ⟨by simp only [okDs, a1, b1, Bool.and_self], by simp only [pds, PyData.intsShortAll, a2, b2, Bool.and_self], by simp only [pds, PyData.showableAll, a3, b3, Bool.and_self], ?_⟩
    simp only [pds, PyData.weightAll, List.length_cons, Nat.add_mul, Nat.one_mul]
    omega
theorem Sxs.tup {n w u : Nat} {xs : List D} (h : Sxs n w xs) (hu : xs.length * (w + 1) ≤ u) : Sx (n + 1) u (.tup xs) := by
  obtain ⟨b1, b2, b3, b4⟩ := h.alls
  exact ⟨by rw [okD]; exact b1, by rw [pd, PyData.intsShort]; exact b2, by rw [pd, PyData.showable]; exact b3, by rw [pd, PyData.weight]; omega⟩
theorem Sxs.lst {n w u : Nat} {xs : List D} (h : Sxs n w xs) (hu : xs.length * (w + 1) ≤ u) : Sx (n + 1) u (.lst xs) := by
  obtain ⟨b1, b2, b3, b4⟩ := h.alls
  exact ⟨by rw [okD]; exact b1, by rw [pd, PyData.intsShort]; exact b2, by rw [pd, PyData.showable]; exact b3, by rw [pd, PyData.weight]; omega⟩
theorem Sx.len {n w : Nat} {d : D} (h : Sx n w d) (hn : n ≤ 60) (hw : w ≤ 300000) : (pd d).shown.length ≤ sizeLine := by
  have h1 := PyData.shown_le 44 (by decide) (pd d) (PyData.leavesShort_of_canLay0 44 _ (okD_lay n d h.1).1 h.2.1)
  have h2 := h.2.2.2
  rw [szl]
  omega
theorem Sx.three {n w : Nat} {d : D} {P : Prop} (h : Sx n w d) (hn : n ≤ 60) (hw : w ≤ 300000) (q : P) : okD 60 d = true ∧ (pd d).showable = true ∧ (pd d).shown.length ≤ 16777216 ∧ P :=
  ⟨okD_more n 60 hn d h.1, h.2.2.1, h.len hn hw, q⟩
end G3

/-! R1: the laws' shared _law_srefused: which class a call is refused with -/
namespace G3
open PySem L2
local macro_rules | `(tactic| walk_at "wp") => `(tactic| simp only [wSs, wS, wE, wL, wO, wSq, wRet, wRetN, wAsg, wIf, wDrop, wFor, wPut, wNx, wArgs, wCons, wNil, wCall, wComp, wI, wB, wSeqT, wSeqL, wRng1, wRng2, wEnumL, wEnumT, wVar, wC, wBin, wUn, wNot, wAnd, wOr, wIte, wTest, wTrk, wSlc, wNoPart, wPart, fMt, List.getElem?_cons_succ, List.getElem?_cons_zero, tupOf, lstOf, gdOf, ex_eq, ex_eq', ex2_eq, ex2_eq', Bfn.f, Mth.f, compT, tgB, setAll, wipeD, wYes, List.map_cons, List.map_nil, List.set_cons_succ, List.set_cons_zero, List.length_cons, List.length_nil, Bop.f, Cop.f, Iop.f, fI2, fS2, fIx, fNeg, true_and, and_true, if_true, bodyEnds, R.fz_v, R.fz_tl, atI_0, atI_1, atI_2, atI_3, Option.some.injEq, DO.lst.injEq, decide_eq_true_eq, gup_same, gup_gup, or_false, ixN_s0, ixN_s1, ixN_s2, List.length_set, List.length_map, szl, Nat.reduceAdd, Nat.zero_add, Nat.reduceLeDiff, Nat.zero_le, Int.reduceLE, exists_eq', false_or, fAddT, fAddL, fSl, rolOf, Bool.not_true, Bool.not_false, Bool.false_eq_true, if_false, Bool.false_xor, Bool.xor_true, beq_self_eq_true, isiB_bb, isiB_ll, decide_true, isiB_tt, fIsN, isNon, wTry, wCallv, wRaise, setO, gonO, tryEnds, wMk, wMkAt, wAt, wRaiseAt, isKd, Mth.kd, eq_self, wDis, wDnK, wDnT, wDput, wPar, wRngD, wFld, wMeth, wNew, wSfld, wCh3, wPar3, wRevL, wDputM, wText, fInT, wIng, wSfld2, wDead])
local macro_rules | `(tactic| walk_at "stp") => `(tactic| first | (rw [wHid_eq]; conv in (wSs _) => arg 1; whnf) | (conv in (wSs _) => arg 1; whnf))
local macro_rules | `(tactic| walk_at "wx") => `(tactic| simp only [wSs, wS, wE, wL, wO, wSq, wRet, wRetN, wAsg, wIf, wDrop, wFor, wPut, wNx, wArgs, wCons, wNil, wCall, wComp, wI, wB, wSeqT, wSeqL, wRng1, wRng2, wEnumL, wEnumT, wVar, wC, wBin, wUn, wNot, wAnd, wOr, wIte, wTest, wTrk, wSlc, wNoPart, wPart, fMt, List.getElem?_cons_succ, List.getElem?_cons_zero, tupOf, lstOf, gdOf, ex_eq, ex_eq', ex2_eq, ex2_eq', Bfn.f, Mth.f, compT, tgB, setAll, wipeD, wYes, List.map_cons, List.map_nil, List.set_cons_succ, List.set_cons_zero, List.length_cons, List.length_nil, Bop.f, Cop.f, Iop.f, fI2, fS2, fIx, fNeg, true_and, and_true, if_true, bodyEnds, R.fz_v, R.fz_tl, atI_0, atI_1, atI_2, atI_3, Option.some.injEq, DO.lst.injEq, decide_eq_true_eq, gup_same, gup_gup, or_false, ixN_s0, ixN_s1, ixN_s2, List.length_set, List.length_map, szl, Nat.reduceAdd, Nat.zero_add, Nat.reduceLeDiff, Nat.zero_le, Int.reduceLE, exists_eq', false_or, fAddT, fAddL, fSl, rolOf, Bool.not_true, Bool.not_false, Bool.false_eq_true, if_false, Bool.false_xor, Bool.xor_true, beq_self_eq_true, isiB_bb, isiB_ll, decide_true, isiB_tt, fIsN, isNon, wTry, wCallv, wRaise, setO, gonO, tryEnds, wMk, wMkAt, wAt, wRaiseAt, isKd, Mth.kd, eq_self, wDis, wDnK, wDnT, wDput, wPar, wRngD, wFld, wMeth, wNew, wSfld, wCh3, wPar3, wRevL, wDputM, wText, fInT, wIng, wSfld2, wDead, eIn_tI, eIn_lI, eEq_tI, eEq_lI, eEq_tl, eEq_tl', eEq_bl, eEq_tN, eEq_lN, fIsE, Ufn.f, fSSet, fLSet, if_true, if_false, Bool.true_xor, Bool.xor_false, seqOf, fIxA, fSlA, fAddA, fInA, wSeqA, wEnumA, isKd, Mth.kd, fB2, okD_int, okD_bl, okDs_intsN, inD_ints, fRepL, fAddS, fIxS, eEq_int, wCh, fLRng, fRevT, fRow2, fTRng, fLSetT])
/-- the word of a class -/
def word (C : Str) : Str := if C = "NoCut" then "cut" else if C = "NoLadder" then "ladder" else if C = "NoInstead" then "instead" else if C = "TooGreat" then "great" else if C = "TooMany" then "many" else if C = "NoTelling" then "telling" else
  if C = "NoText" then "text" else if C = "NoRow" then "row" else "back"
end G3

/-! S1: on what a row stands: the program and the laws' own look -/
namespace G3
open PySem L2
local macro_rules | `(tactic| walk_at "wp") => `(tactic| simp only [wSs, wS, wE, wL, wO, wSq, wRet, wRetN, wAsg, wIf, wDrop, wFor, wPut, wNx, wArgs, wCons, wNil, wCall, wComp, wI, wB, wSeqT, wSeqL, wRng1, wRng2, wEnumL, wEnumT, wVar, wC, wBin, wUn, wNot, wAnd, wOr, wIte, wTest, wTrk, wSlc, wNoPart, wPart, fMt, List.getElem?_cons_succ, List.getElem?_cons_zero, tupOf, lstOf, gdOf, ex_eq, ex_eq', ex2_eq, ex2_eq', Bfn.f, Mth.f, compT, tgB, setAll, wipeD, wYes, List.map_cons, List.map_nil, List.set_cons_succ, List.set_cons_zero, List.length_cons, List.length_nil, Bop.f, Cop.f, Iop.f, fI2, fS2, fIx, fNeg, true_and, and_true, if_true, bodyEnds, R.fz_v, R.fz_tl, atI_0, atI_1, atI_2, atI_3, Option.some.injEq, DO.lst.injEq, decide_eq_true_eq, gup_same, gup_gup, or_false, ixN_s0, ixN_s1, ixN_s2, List.length_set, List.length_map, szl, Nat.reduceAdd, Nat.zero_add, Nat.reduceLeDiff, Nat.zero_le, Int.reduceLE, exists_eq', false_or, fAddT, fAddL, fSl, rolOf, Bool.not_true, Bool.not_false, Bool.false_eq_true, if_false, Bool.false_xor, Bool.xor_true, beq_self_eq_true, isiB_bb, isiB_ll, decide_true, isiB_tt, fIsN, isNon, wTry, wCallv, wRaise, setO, gonO, tryEnds, wMk, wMkAt, wAt, wRaiseAt, isKd, Mth.kd, eq_self, wDis, wDnK, wDnT, wDput, wPar, wRngD, wFld, wMeth, wNew, wSfld, wCh3, wPar3, wRevL, wDputM, wText, fInT, wIng, wSfld2, wDead])
local macro_rules | `(tactic| walk_at "stp") => `(tactic| first | (rw [wHid_eq]; conv in (wSs _) => arg 1; whnf) | (conv in (wSs _) => arg 1; whnf))
local macro_rules | `(tactic| walk_at "wx") => `(tactic| simp only [wSs, wS, wE, wL, wO, wSq, wRet, wRetN, wAsg, wIf, wDrop, wFor, wPut, wNx, wArgs, wCons, wNil, wCall, wComp, wI, wB, wSeqT, wSeqL, wRng1, wRng2, wEnumL, wEnumT, wVar, wC, wBin, wUn, wNot, wAnd, wOr, wIte, wTest, wTrk, wSlc, wNoPart, wPart, fMt, List.getElem?_cons_succ, List.getElem?_cons_zero, tupOf, lstOf, gdOf, ex_eq, ex_eq', ex2_eq, ex2_eq', Bfn.f, Mth.f, compT, tgB, setAll, wipeD, wYes, List.map_cons, List.map_nil, List.set_cons_succ, List.set_cons_zero, List.length_cons, List.length_nil, Bop.f, Cop.f, Iop.f, fI2, fS2, fIx, fNeg, true_and, and_true, if_true, bodyEnds, R.fz_v, R.fz_tl, atI_0, atI_1, atI_2, atI_3, Option.some.injEq, DO.lst.injEq, decide_eq_true_eq, gup_same, gup_gup, or_false, ixN_s0, ixN_s1, ixN_s2, List.length_set, List.length_map, szl, Nat.reduceAdd, Nat.zero_add, Nat.reduceLeDiff, Nat.zero_le, Int.reduceLE, exists_eq', false_or, fAddT, fAddL, fSl, rolOf, Bool.not_true, Bool.not_false, Bool.false_eq_true, if_false, Bool.false_xor, Bool.xor_true, beq_self_eq_true, isiB_bb, isiB_ll, decide_true, isiB_tt, fIsN, isNon, wTry, wCallv, wRaise, setO, gonO, tryEnds, wMk, wMkAt, wAt, wRaiseAt, isKd, Mth.kd, eq_self, wDis, wDnK, wDnT, wDput, wPar, wRngD, wFld, wMeth, wNew, wSfld, wCh3, wPar3, wRevL, wDputM, wText, fInT, wIng, wSfld2, wDead, eIn_tI, eIn_lI, eEq_tI, eEq_lI, eEq_tl, eEq_tl', eEq_bl, eEq_tN, eEq_lN, fIsE, Ufn.f, fSSet, fLSet, if_true, if_false, Bool.true_xor, Bool.xor_false, seqOf, fIxA, fSlA, fAddA, fInA, wSeqA, wEnumA, isKd, Mth.kd, fB2, okD_int, okD_bl, okDs_intsN, inD_ints, fRepL, fAddS, fIxS, eEq_int, wCh, fLRng, fRevT, fRow2, fTRng, fLSetT])
def addI (ks : List Int) (i : Int) : List Int := if i ∈ ks then ks else ks ++ [i]
end G3

/-! E0: what is forced (plain law) -/
namespace G3
open PySem L2
local macro_rules | `(tactic| walk_at "wp") => `(tactic| simp only [wSs, wS, wE, wL, wO, wSq, wRet, wRetN, wAsg, wIf, wDrop, wFor, wPut, wNx, wArgs, wCons, wNil, wCall, wComp, wI, wB, wSeqT, wSeqL, wRng1, wRng2, wEnumL, wEnumT, wVar, wC, wBin, wUn, wNot, wAnd, wOr, wIte, wTest, wTrk, wSlc, wNoPart, wPart, fMt, List.getElem?_cons_succ, List.getElem?_cons_zero, tupOf, lstOf, gdOf, ex_eq, ex_eq', ex2_eq, ex2_eq', Bfn.f, Mth.f, compT, tgB, setAll, wipeD, wYes, List.map_cons, List.map_nil, List.set_cons_succ, List.set_cons_zero, List.length_cons, List.length_nil, Bop.f, Cop.f, Iop.f, fI2, fS2, fIx, fNeg, true_and, and_true, if_true, bodyEnds, R.fz_v, R.fz_tl, atI_0, atI_1, atI_2, atI_3, Option.some.injEq, DO.lst.injEq, decide_eq_true_eq, gup_same, gup_gup, or_false, ixN_s0, ixN_s1, ixN_s2, List.length_set, List.length_map, szl, Nat.reduceAdd, Nat.zero_add, Nat.reduceLeDiff, Nat.zero_le, Int.reduceLE, exists_eq', false_or, fAddT, fAddL, fSl, rolOf, Bool.not_true, Bool.not_false, Bool.false_eq_true, if_false, Bool.false_xor, Bool.xor_true, beq_self_eq_true, isiB_bb, isiB_ll, decide_true, isiB_tt, fIsN, isNon, wTry, wCallv, wRaise, setO, gonO, tryEnds, wMk, wMkAt, wAt, wRaiseAt, isKd, Mth.kd, eq_self, wDis, wDnK, wDnT, wDput, wPar, wRngD, wFld, wMeth, wNew, wSfld, wCh3, wPar3, wRevL, wDputM, wText, fInT, wIng, wSfld2, wDead])
local macro_rules | `(tactic| walk_at "stp") => `(tactic| first | (rw [wHid_eq]; conv in (wSs _) => arg 1; whnf) | (conv in (wSs _) => arg 1; whnf))
local macro_rules | `(tactic| walk_at "wx") => `(tactic| simp only [wSs, wS, wE, wL, wO, wSq, wRet, wRetN, wAsg, wIf, wDrop, wFor, wPut, wNx, wArgs, wCons, wNil, wCall, wComp, wI, wB, wSeqT, wSeqL, wRng1, wRng2, wEnumL, wEnumT, wVar, wC, wBin, wUn, wNot, wAnd, wOr, wIte, wTest, wTrk, wSlc, wNoPart, wPart, fMt, List.getElem?_cons_succ, List.getElem?_cons_zero, tupOf, lstOf, gdOf, ex_eq, ex_eq', ex2_eq, ex2_eq', Bfn.f, Mth.f, compT, tgB, setAll, wipeD, wYes, List.map_cons, List.map_nil, List.set_cons_succ, List.set_cons_zero, List.length_cons, List.length_nil, Bop.f, Cop.f, Iop.f, fI2, fS2, fIx, fNeg, true_and, and_true, if_true, bodyEnds, R.fz_v, R.fz_tl, atI_0, atI_1, atI_2, atI_3, Option.some.injEq, DO.lst.injEq, decide_eq_true_eq, gup_same, gup_gup, or_false, ixN_s0, ixN_s1, ixN_s2, List.length_set, List.length_map, szl, Nat.reduceAdd, Nat.zero_add, Nat.reduceLeDiff, Nat.zero_le, Int.reduceLE, exists_eq', false_or, fAddT, fAddL, fSl, rolOf, Bool.not_true, Bool.not_false, Bool.false_eq_true, if_false, Bool.false_xor, Bool.xor_true, beq_self_eq_true, isiB_bb, isiB_ll, decide_true, isiB_tt, fIsN, isNon, wTry, wCallv, wRaise, setO, gonO, tryEnds, wMk, wMkAt, wAt, wRaiseAt, isKd, Mth.kd, eq_self, wDis, wDnK, wDnT, wDput, wPar, wRngD, wFld, wMeth, wNew, wSfld, wCh3, wPar3, wRevL, wDputM, wText, fInT, wIng, wSfld2, wDead, eIn_tI, eIn_lI, eEq_tI, eEq_lI, eEq_tl, eEq_tl', eEq_bl, eEq_tN, eEq_lN, fIsE, Ufn.f, fSSet, fLSet, if_true, if_false, Bool.true_xor, Bool.xor_false, seqOf, fIxA, fSlA, fAddA, fInA, wSeqA, wEnumA, isKd, Mth.kd, fB2, okD_int, okD_bl, okDs_intsN, inD_ints, fRepL, fAddS, fIxS, eEq_int, wCh, fLRng, fRevT, fRow2, fTRng, fLSetT])
/-! ### a dict of says -/
/-- a while loop, by what gets less at each turn -/
theorem whlW_dec {tc : TTD} {tb : TSD} {De : DEnds} (I : Nat → DEnv → GH → Prop) {m : Nat} {ρ : DEnv} {g : GH} (h0 : I m ρ g)
    (hs : ∀ m ρ g, I m ρ g → ∀ Nx : DEnv → GH → Prop, (∀ m' ρ' g', m' < m → I m' ρ' g' → Nx ρ' g') → tc ρ g (fun b g1 => if b = true then tb { De with nx := Nx, ct := Nx } ρ g1 else De.nx ρ g1) (fun x g1 => De.ex x ρ g1)) : ∃ n, whlW tc tb De n ρ g := by
  have go : ∀ (n m : Nat), m < n → ∀ ρ g, I m ρ g → whlW tc tb De n ρ g := by
    intro n
    induction n with
    | zero => intro m h; omega
    | succ n ih => intro m hm ρ g h; exact hs m ρ g h _ fun m' ρ' g' hl h' => ih m' (by omega) ρ' g' h'
  exact ⟨m + 1, go (m + 1) m (by omega) ρ g h0⟩
end G3

/-! Q0: words that write numbers -/
namespace G3
open PySem L2
local macro_rules | `(tactic| walk_at "wp") => `(tactic| simp only [wSs, wS, wE, wL, wO, wSq, wRet, wRetN, wAsg, wIf, wDrop, wFor, wPut, wNx, wArgs, wCons, wNil, wCall, wComp, wI, wB, wSeqT, wSeqL, wRng1, wRng2, wEnumL, wEnumT, wVar, wC, wBin, wUn, wNot, wAnd, wOr, wIte, wTest, wTrk, wSlc, wNoPart, wPart, fMt, List.getElem?_cons_succ, List.getElem?_cons_zero, tupOf, lstOf, gdOf, ex_eq, ex_eq', ex2_eq, ex2_eq', Bfn.f, Mth.f, compT, tgB, setAll, wipeD, wYes, List.map_cons, List.map_nil, List.set_cons_succ, List.set_cons_zero, List.length_cons, List.length_nil, Bop.f, Cop.f, Iop.f, fI2, fS2, fIx, fNeg, true_and, and_true, if_true, bodyEnds, R.fz_v, R.fz_tl, atI_0, atI_1, atI_2, atI_3, Option.some.injEq, DO.lst.injEq, decide_eq_true_eq, gup_same, gup_gup, or_false, ixN_s0, ixN_s1, ixN_s2, List.length_set, List.length_map, szl, Nat.reduceAdd, Nat.zero_add, Nat.reduceLeDiff, Nat.zero_le, Int.reduceLE, exists_eq', false_or, fAddT, fAddL, fSl, rolOf, Bool.not_true, Bool.not_false, Bool.false_eq_true, if_false, Bool.false_xor, Bool.xor_true, beq_self_eq_true, isiB_bb, isiB_ll, decide_true, isiB_tt, fIsN, isNon, wTry, wCallv, wRaise, setO, gonO, tryEnds, wMk, wMkAt, wAt, wRaiseAt, isKd, Mth.kd, eq_self, wDis, wDnK, wDnT, wDput, wPar, wRngD, wFld, wMeth, wNew, wSfld, wCh3, wPar3, wRevL, wDputM, wText, fInT, wIng, wSfld2, wDead])
local macro_rules | `(tactic| walk_at "stp") => `(tactic| first | (rw [wHid_eq]; conv in (wSs _) => arg 1; whnf) | (conv in (wSs _) => arg 1; whnf))
local macro_rules | `(tactic| walk_at "wx") => `(tactic| simp only [wSs, wS, wE, wL, wO, wSq, wRet, wRetN, wAsg, wIf, wDrop, wFor, wPut, wNx, wArgs, wCons, wNil, wCall, wComp, wI, wB, wSeqT, wSeqL, wRng1, wRng2, wEnumL, wEnumT, wVar, wC, wBin, wUn, wNot, wAnd, wOr, wIte, wTest, wTrk, wSlc, wNoPart, wPart, fMt, List.getElem?_cons_succ, List.getElem?_cons_zero, tupOf, lstOf, gdOf, ex_eq, ex_eq', ex2_eq, ex2_eq', Bfn.f, Mth.f, compT, tgB, setAll, wipeD, wYes, List.map_cons, List.map_nil, List.set_cons_succ, List.set_cons_zero, List.length_cons, List.length_nil, Bop.f, Cop.f, Iop.f, fI2, fS2, fIx, fNeg, true_and, and_true, if_true, bodyEnds, R.fz_v, R.fz_tl, atI_0, atI_1, atI_2, atI_3, Option.some.injEq, DO.lst.injEq, decide_eq_true_eq, gup_same, gup_gup, or_false, ixN_s0, ixN_s1, ixN_s2, List.length_set, List.length_map, szl, Nat.reduceAdd, Nat.zero_add, Nat.reduceLeDiff, Nat.zero_le, Int.reduceLE, exists_eq', false_or, fAddT, fAddL, fSl, rolOf, Bool.not_true, Bool.not_false, Bool.false_eq_true, if_false, Bool.false_xor, Bool.xor_true, beq_self_eq_true, isiB_bb, isiB_ll, decide_true, isiB_tt, fIsN, isNon, wTry, wCallv, wRaise, setO, gonO, tryEnds, wMk, wMkAt, wAt, wRaiseAt, isKd, Mth.kd, eq_self, wDis, wDnK, wDnT, wDput, wPar, wRngD, wFld, wMeth, wNew, wSfld, wCh3, wPar3, wRevL, wDputM, wText, fInT, wIng, wSfld2, wDead, eIn_tI, eIn_lI, eEq_tI, eEq_lI, eEq_tl, eEq_tl', eEq_bl, eEq_tN, eEq_lN, fIsE, Ufn.f, fSSet, fLSet, if_true, if_false, Bool.true_xor, Bool.xor_false, seqOf, fIxA, fSlA, fAddA, fInA, wSeqA, wEnumA, isKd, Mth.kd, fB2, okD_int, okD_bl, okDs_intsN, inD_ints, fRepL, fAddS, fIxS, eEq_int, wCh, fLRng, fRevT, fRow2, fTRng, fLSetT])
def strI (i : Int) : Str := Str.ofString (toString i)
def digs : List Nat := [48, 49, 50, 51, 52, 53, 54, 55, 56, 57]
theorem digs_eq : (Str.ofString "0123456789").cps.toList = digs := by decide +kernel
def digB (w : Str) : Bool := w.cps.toList.all fun c => decide (c ∈ digs)
def numIn (w : Str) (lo hi : Int) : Option Int :=
  if w.cps.toList = [] ∨ 3 < w.cps.toList.length ∨ digB w = false then none
  else match PySem.intText? w with
    | none => none
    | some n => if (w.cps.toList.head? = some 48 ∧ 1 < w.cps.toList.length) ∨ ¬ (lo ≤ n ∧ n ≤ hi) then none else some n
def dg (a : Fin 10) : Nat := 48 + a.val
theorem dg_of {c : Nat} (h : c ∈ digs) : ∃ a, c = dg a := by
  have h : 48 ≤ c ∧ c ≤ 57 := by
    simp only [digs, List.mem_cons, List.not_mem_nil, or_false] at h; omega
  exact ⟨⟨c - 48, by omega⟩, by show c = 48 + (c - 48); omega⟩
theorem it1 : ∀ a : Fin 10, PySem.intText? ⟨#[dg a]⟩ = some (a.val : Int) ∧ (⟨#[dg a]⟩ : Str) = strI (a.val : Int) := by decide +kernel
theorem it2 : ∀ a b : Fin 10, PySem.intText? ⟨#[dg a, dg b]⟩ = some ((10 * a.val + b.val : Nat) : Int) ∧ (a.val ≠ 0 → (⟨#[dg a, dg b]⟩ : Str) = strI ((10 * a.val + b.val : Nat) : Int)) := by decide +kernel
theorem it3 : ∀ a b c : Fin 10, PySem.intText? ⟨#[dg a, dg b, dg c]⟩ = some ((100 * a.val + 10 * b.val + c.val : Nat) : Int) ∧ (a.val ≠ 0 → (⟨#[dg a, dg b, dg c]⟩ : Str) = strI ((100 * a.val + 10 * b.val + c.val : Nat) : Int)) := by decide +kernel
theorem str_ext {a b : Str} (h : a.cps.toList = b.cps.toList) : a = b := by
  obtain ⟨⟨a⟩⟩ := a
  obtain ⟨⟨b⟩⟩ := b
  have h : a = b := h
  rw [h]
/-- up to three figures: a number, and how it is written -/
theorem digs_int {w : Str} (h0 : w.cps.toList ≠ []) (h3 : w.cps.toList.length ≤ 3) (hd : digB w = true) : ∃ n : Nat, n ≤ 999 ∧ PySem.intText? w = some (n : Int) ∧ (¬ (w.cps.toList.head? = some 48 ∧ 1 < w.cps.toList.length) → w = strI n) := by
  have hall := List.all_eq_true.mp hd
  match e : w.cps.toList, h0, h3, hall with
  | [a], _, _, hall =>
    obtain ⟨x, rfl⟩ := dg_of (of_decide_eq_true (hall a (by simp)))
    obtain rfl : w = ⟨#[dg x]⟩ := str_ext e
    obtain ⟨i1, i2⟩ := it1 x
    exact ⟨x.val, by omega, i1, fun _ => i2⟩
  | [a, b], _, _, hall =>
    obtain ⟨x, rfl⟩ := dg_of (of_decide_eq_true (hall a (by simp)))
    obtain ⟨y, rfl⟩ := dg_of (of_decide_eq_true (hall b (by simp)))
    obtain rfl : w = ⟨#[dg x, dg y]⟩ := str_ext e
    obtain ⟨i1, i2⟩ := it2 x y
    exact ⟨10 * x.val + y.val, by omega, i1, fun h => i2 fun z => h ⟨by show some (dg x) = _; unfold dg; rw [z], by simp⟩⟩
  | [a, b, c], _, _, hall =>
    obtain ⟨x, rfl⟩ := dg_of (of_decide_eq_true (hall a (by simp)))
    obtain ⟨y, rfl⟩ := dg_of (of_decide_eq_true (hall b (by simp)))
    obtain ⟨z, rfl⟩ := dg_of (of_decide_eq_true (hall c (by simp)))
    obtain rfl : w = ⟨#[dg x, dg y, dg z]⟩ := str_ext e
    obtain ⟨i1, i2⟩ := it3 x y z
    exact ⟨100 * x.val + 10 * y.val + z.val, by omega, i1, fun h => i2 fun q => h ⟨by show some (dg x) = _; unfold dg; rw [q], by simp⟩⟩
  | _ :: _ :: _ :: _ :: _, _, h3, _ => simp at h3
theorem strI_ok : ∀ n : Fin 1000, PySem.intText? (strI (n.val : Int)) = some (n.val : Int) ∧ (strI (n.val : Int)).cps.toList ≠ [] ∧ (strI (n.val : Int)).cps.toList.length ≤ 3 ∧ digB (strI (n.val : Int)) = true ∧ ¬ ((strI (n.val : Int)).cps.toList.head? = some 48 ∧ 1 < (strI (n.val : Int)).cps.toList.length) := by decide +kernel
theorem num_iff {w : Str} {lo hi n : Int} (h0 : 0 ≤ lo) (h9 : hi ≤ 999) : numIn w lo hi = some n ↔ lo ≤ n ∧ n ≤ hi ∧ w = strI n := by
  constructor
  · intro h
    unfold numIn at h
    split at h
    · cases h
    · rename_i hc
      obtain ⟨k, hk, e1, e2⟩ := digs_int (w := w) (fun e => hc (.inl e)) (by
        rcases Nat.lt_or_ge 3 w.cps.toList.length with h | h
        · exact absurd (.inr (.inl h)) hc
        · exact h) (by
        cases e : digB w with
        | true => rfl
        | false => exact absurd (.inr (.inr e)) hc)
      rw [e1] at h
      dsimp only at h
      split at h
      · cases h
      · rename_i hn
        cases h
        have h1 : ¬ (w.cps.toList.head? = some 48 ∧ 1 < w.cps.toList.length) := fun z => hn (.inl z)
        have h2 : lo ≤ (k : Int) ∧ (k : Int) ≤ hi := Classical.byContradiction fun z => hn (.inr z)
        exact ⟨h2.1, h2.2, e2 h1⟩
  · rintro ⟨h1, h2, rfl⟩
    obtain ⟨k, rfl⟩ : ∃ k : Nat, n = k := ⟨n.toNat, by omega⟩
    obtain ⟨o1, o2, o3, o4, o5⟩ := strI_ok ⟨k, by omega⟩
    unfold numIn
    rw [if_neg (by
      rintro (h | h | h)
      · exact o2 h
      · have := o3; dsimp only at this; omega
      · rw [o4] at h; cases h)]
    rw [show PySem.intText? (strI (k : Int)) = some (k : Int) from o1]
    dsimp only
    rw [if_neg (by
      rintro (h | h)
      · exact o5 h
      · exact h ⟨h1, h2⟩)]
def sayIn (w : Str) : Option Int := if cutS w none (some 1) = Str.ofString "-" then (match numIn (cutS w (some 1) none) 1 8 with | none => none | some n => some (0 - n)) else numIn w 1 8
end G3

/-! Q1: words read one by one -/
namespace G3
open PySem L2
local macro_rules | `(tactic| walk_at "wp") => `(tactic| simp only [wSs, wS, wE, wL, wO, wSq, wRet, wRetN, wAsg, wIf, wDrop, wFor, wPut, wNx, wArgs, wCons, wNil, wCall, wComp, wI, wB, wSeqT, wSeqL, wRng1, wRng2, wEnumL, wEnumT, wVar, wC, wBin, wUn, wNot, wAnd, wOr, wIte, wTest, wTrk, wSlc, wNoPart, wPart, fMt, List.getElem?_cons_succ, List.getElem?_cons_zero, tupOf, lstOf, gdOf, ex_eq, ex_eq', ex2_eq, ex2_eq', Bfn.f, Mth.f, compT, tgB, setAll, wipeD, wYes, List.map_cons, List.map_nil, List.set_cons_succ, List.set_cons_zero, List.length_cons, List.length_nil, Bop.f, Cop.f, Iop.f, fI2, fS2, fIx, fNeg, true_and, and_true, if_true, bodyEnds, R.fz_v, R.fz_tl, atI_0, atI_1, atI_2, atI_3, Option.some.injEq, DO.lst.injEq, decide_eq_true_eq, gup_same, gup_gup, or_false, ixN_s0, ixN_s1, ixN_s2, List.length_set, List.length_map, szl, Nat.reduceAdd, Nat.zero_add, Nat.reduceLeDiff, Nat.zero_le, Int.reduceLE, exists_eq', false_or, fAddT, fAddL, fSl, rolOf, Bool.not_true, Bool.not_false, Bool.false_eq_true, if_false, Bool.false_xor, Bool.xor_true, beq_self_eq_true, isiB_bb, isiB_ll, decide_true, isiB_tt, fIsN, isNon, wTry, wCallv, wRaise, setO, gonO, tryEnds, wMk, wMkAt, wAt, wRaiseAt, isKd, Mth.kd, eq_self, wDis, wDnK, wDnT, wDput, wPar, wRngD, wFld, wMeth, wNew, wSfld, wCh3, wPar3, wRevL, wDputM, wText, fInT, wIng, wSfld2, wDead])
local macro_rules | `(tactic| walk_at "stp") => `(tactic| first | (rw [wHid_eq]; conv in (wSs _) => arg 1; whnf) | (conv in (wSs _) => arg 1; whnf))
local macro_rules | `(tactic| walk_at "wx") => `(tactic| simp only [wSs, wS, wE, wL, wO, wSq, wRet, wRetN, wAsg, wIf, wDrop, wFor, wPut, wNx, wArgs, wCons, wNil, wCall, wComp, wI, wB, wSeqT, wSeqL, wRng1, wRng2, wEnumL, wEnumT, wVar, wC, wBin, wUn, wNot, wAnd, wOr, wIte, wTest, wTrk, wSlc, wNoPart, wPart, fMt, List.getElem?_cons_succ, List.getElem?_cons_zero, tupOf, lstOf, gdOf, ex_eq, ex_eq', ex2_eq, ex2_eq', Bfn.f, Mth.f, compT, tgB, setAll, wipeD, wYes, List.map_cons, List.map_nil, List.set_cons_succ, List.set_cons_zero, List.length_cons, List.length_nil, Bop.f, Cop.f, Iop.f, fI2, fS2, fIx, fNeg, true_and, and_true, if_true, bodyEnds, R.fz_v, R.fz_tl, atI_0, atI_1, atI_2, atI_3, Option.some.injEq, DO.lst.injEq, decide_eq_true_eq, gup_same, gup_gup, or_false, ixN_s0, ixN_s1, ixN_s2, List.length_set, List.length_map, szl, Nat.reduceAdd, Nat.zero_add, Nat.reduceLeDiff, Nat.zero_le, Int.reduceLE, exists_eq', false_or, fAddT, fAddL, fSl, rolOf, Bool.not_true, Bool.not_false, Bool.false_eq_true, if_false, Bool.false_xor, Bool.xor_true, beq_self_eq_true, isiB_bb, isiB_ll, decide_true, isiB_tt, fIsN, isNon, wTry, wCallv, wRaise, setO, gonO, tryEnds, wMk, wMkAt, wAt, wRaiseAt, isKd, Mth.kd, eq_self, wDis, wDnK, wDnT, wDput, wPar, wRngD, wFld, wMeth, wNew, wSfld, wCh3, wPar3, wRevL, wDputM, wText, fInT, wIng, wSfld2, wDead, eIn_tI, eIn_lI, eEq_tI, eEq_lI, eEq_tl, eEq_tl', eEq_bl, eEq_tN, eEq_lN, fIsE, Ufn.f, fSSet, fLSet, if_true, if_false, Bool.true_xor, Bool.xor_false, seqOf, fIxA, fSlA, fAddA, fInA, wSeqA, wEnumA, isKd, Mth.kd, fB2, okD_int, okD_bl, okDs_intsN, inD_ints, fRepL, fAddS, fIxS, eEq_int, wCh, fLRng, fRevT, fRow2, fTRng, fLSetT])
def optW : Option Int → D
  | none => .non
  | some n => .int n
def n_number_in : List Str := ["word", "low", "high", "sign"]
def b_number_in_5 : Sl := .cons (.ret (.blf .intS (.cons (.var 0) (.nil)))) (.nil)
def b_number_in_3 : Sl := .cons (.ifs (.or (.and (.cmp .eqS (.idx .s (.var 0) (.cst (.int 0))) (.cst (.str "0"))) (.cmp .gtI (.blf .lenS (.cons (.var 0) (.nil))) (.cst (.int 1)))) (.not (.cmp2 .leI .leI (.var 1) (.blf .intS (.cons (.var 0) (.nil))) (.var 2)))) (.cons (.ret (.cst .non)) (.nil)) (.nil)) (.part b_number_in_5)
def b_number_in : Sl := .cons (.ifs (.or (.cmp .eqS (.var 0) (.cst (.str ""))) (.or (.cmp .gtI (.blf .lenS (.cons (.var 0) (.nil))) (.cst (.int 3))) (.not (.blf .all (.cons (.comp [("sign", 3)] (.text (.var 0)) (.nm 3) (.no) (.cmp .inT (.var 3) (.cst (.str "0123456789")))) (.nil)))))) (.cons (.ret (.cst .non)) (.nil)) (.nil)) (.part b_number_in_3)
def sp_number_in : GSp := fun ds g Q _ => ∃ (w : Str) (lo hi : Int), ds = [.str w, .int lo, .int hi] ∧ w.length ≤ sizeLine ∧ Q (.v (optW (numIn w lo hi))) g
theorem w_number_in : ∀ ds g Q W, sp_number_in ds g Q W → wSs b_number_in (bodyEnds g Q W) (startD 4 ds) g := by
  rintro ds g Q W ⟨w, lo, hi, rfl, hl, h⟩
  change wSs _ _ [some _, some _, some _, none] g
  unfold numIn at h
  have hlen : w.length = w.cps.toList.length := by show w.cps.size = _; rw [Array.length_toList]
  have eE : w = Str.ofString "" ↔ w.cps.toList = [] := by
    constructor
    · intro e; rw [e]; decide +kernel
    · intro e; exact str_ext (by rw [e]; decide +kernel)
  walk_at "stp"; walk_at "wx"
  by_cases c1 : w.cps.toList = []
  · rw [if_pos (eE.mpr c1)]
    rw [if_pos (.inl c1)] at h
    exact .same h
  rw [if_neg (fun e => c1 (eE.mp e))]
  refine ⟨hl, ?_⟩
  by_cases c2 : 3 < w.cps.toList.length
  · rw [if_pos (by omega)]
    rw [if_pos (.inr (.inl c2))] at h
    exact .same h
  rw [if_neg (by omega)]
  unfold txtD
  refine compW_m (fun c : Nat => D.str ⟨#[c]⟩) (fun c => .bl (decide (c ∈ digs))) trivial (fun c hc P hP => ?_) (by rw [szl]; omega) ?_
  · walk_at "wx"
    refine ⟨c, rfl, ?_⟩
    rw [digs_eq]
    exact hP
  refine ⟨w.cps.toList.map fun c => decide (c ∈ digs), by rw [List.map_map]; rfl, ?_⟩
  have ed : (w.cps.toList.map fun c => decide (c ∈ digs)).all id = digB w := by unfold digB; rw [List.all_map]; rfl
  rw [ed]
  cases c3 : digB w with
  | false =>
    rw [if_pos (by decide)]
    rw [if_pos (.inr (.inr c3))] at h
    exact .same h
  | true =>
    rw [if_neg (by decide)]
    rw [if_neg (by rintro (z | z | z); exact c1 z; exact c2 z; rw [c3] at z; cases z)] at h
    obtain ⟨n, hn, e1, -⟩ := digs_int c1 (by omega) c3
    rw [e1] at h
    dsimp only at h
    have fin : ¬ (w.cps.toList.head? = some 48 ∧ 1 < w.cps.toList.length) → ∃ n, PySem.intText? w = some n ∧ w.length ≤ 640 ∧ if lo ≤ n then if (!decide (n ≤ hi)) = true then RetOk g Q (R.v D.non) g
        else wHid (wSs b_number_in_5) { nx := fun x g' => RetOk g Q (R.v D.non) g', rt := RetOk g Q, ct := fun x x_1 => False, ex := XRet W } [some (D.str w), some (D.int lo), some (D.int hi), none] g else RetOk g Q (R.v D.non) g := by
      intro hh
      refine ⟨n, e1, by omega, ?_⟩
      by_cases c4 : lo ≤ (n : Int) ∧ (n : Int) ≤ hi
      · rw [if_neg (by rintro (z | z); exact hh z; exact z c4)] at h
        rw [if_pos c4.1, if_neg (by simpa using c4.2)]
        walk_at "stp"; walk_at "wx"
        exact ⟨n, e1, by omega, .same h⟩
      · rw [if_pos (.inr c4)] at h
        by_cases c5 : lo ≤ (n : Int)
        · rw [if_pos c5, if_pos (by simp; omega)]
          exact .same h
        · rw [if_neg c5]
          exact .same h
    obtain ⟨a, r, ear⟩ : ∃ a r, w.cps.toList = a :: r := by
      cases e : w.cps.toList with
      | nil => exact absurd e c1
      | cons a r => exact ⟨a, r, rfl⟩
    have e0 : (⟨#[a]⟩ : Str) = Str.ofString "0" ↔ a = 48 := by
      have e00 : (Str.ofString "0").cps = #[48] := by decide +kernel
      constructor
      · intro e
        have := congrArg (fun z : Str => z.cps.toList) e
        simp only [e00] at this
        simpa using this
      · intro e
        subst e
        exact str_ext (by rw [e00])
    have eh : w.cps.toList.head? = some a := by rw [ear]; rfl
    walk_at "stp"; walk_at "wx"
    refine ⟨hl, a, by rw [ear]; exact atI_0, ?_⟩
    by_cases c6 : a = 48
    · rw [if_pos (e0.mpr c6)]
      refine ⟨hl, ?_⟩
      by_cases c7 : 1 < w.cps.toList.length
      · rw [if_pos (by omega)]
        rw [if_pos (.inl ⟨by rw [eh, c6], c7⟩)] at h
        exact .same h
      · rw [if_neg (by omega)]
        exact fin fun z => c7 z.2
    · rw [if_neg (fun z => c6 (e0.mp z))]
      exact fin fun z => c6 (by rw [eh] at z; exact Option.some.inj z.1)
def sp_say_in : GSp := fun ds g Q _ => ∃ (w : Str), ds = [.str w] ∧ w.length ≤ sizeLine ∧ Q (.v (optW (sayIn w))) g
theorem cutS_len {w : Str} {lo hi : Option Int} : (cutS w lo hi).length ≤ w.length := by
  have hlen : w.length = w.cps.toList.length := by show w.cps.size = _; rw [Array.length_toList]
  show (List.toArray _).size ≤ _
  rw [List.size_toArray, List.length_take, List.length_drop, hlen]
  omega
/-- words, and the one that is due -/
def wdO (ws : List Str) (at_ : Nat) : DO := .ins (Str.ofString "Words") [(Str.ofString "words", .lst (ws.map .str)), (Str.ofString "at", .int (at_ : Nat))]
theorem putW1 {x : D} : putFD (Str.ofString "words") x [] = [((Str.ofString "words"), x)] := rfl
theorem putW2 {x y : D} : putFD (Str.ofString "at") y [((Str.ofString "words"), x)] = [((Str.ofString "words"), x), ((Str.ofString "at"), y)] := by
  unfold putFD putFD
  rw [if_neg (show ¬ (Str.ofString "words") = Str.ofString "at" by decide +kernel)]
theorem putW3 {x y z : D} : putFD (Str.ofString "at") z [((Str.ofString "words"), x), ((Str.ofString "at"), y)] = [((Str.ofString "words"), x), ((Str.ofString "at"), z)] := by
  unfold putFD putFD
  rw [if_neg (show ¬ (Str.ofString "words") = Str.ofString "at" by decide +kernel), if_pos rfl]
theorem lookW1 {x y : D} : List.lookup (Str.ofString "words") [((Str.ofString "words"), x), ((Str.ofString "at"), y)] = some x := by
  rw [List.lookup_cons, show ((Str.ofString "words") == Str.ofString "words") = true by decide +kernel]
theorem lookW2 {x y : D} : List.lookup (Str.ofString "at") [((Str.ofString "words"), x), ((Str.ofString "at"), y)] = some y := by
  rw [List.lookup_cons, show ((Str.ofString "at") == Str.ofString "words") = false by decide +kernel, List.lookup_cons, show ((Str.ofString "at") == Str.ofString "at") = true by decide +kernel]
/-- no method's name is a field -/
theorem lookW0 {m : Str} {x y : D} (h : (m == Str.ofString "words") = false) (h2 : (m == Str.ofString "at") = false) : List.lookup m [((Str.ofString "words"), x), ((Str.ofString "at"), y)] = none := by
  rw [List.lookup_cons, h, List.lookup_cons, h2]; rfl
def n_Words___init__ : List Str := ["self", "text"]
def b_Words___init__ : Sl := .cons (.sfld "Words" "words" (.var 0) (.mth .split (.var 1) (.cons (.cst (.str " ")) (.nil)))) (.cons (.sfld "Words" "at" (.var 0) (.cst (.int 0))) (.nil))
def sp_Words___init__ : GSp := fun ds g Q _ => ∃ (p : Addr) (t : Str), ds = [.ref p, .str t] ∧ g p = some (.ins "Words" []) ∧ t.length + 2 ≤ sizeLine ∧ Q (.v .non) (gup g p (wdO (Txt.split t (Str.ofString " ")) 0))
theorem w_Words___init__ : ∀ ds g Q W, sp_Words___init__ ds g Q W → wSs b_Words___init__ (bodyEnds g Q W) (startD 2 ds) g := by
  rintro ds g Q W ⟨p, t, rfl, hp, hl, h⟩
  change wSs _ _ [some _, some _] g
  walk_at "stp"; walk_at "wx"
  refine ⟨by decide +kernel, by rw [szl] at hl; omega, _, hp, by decide, _, rfl, by rw [putW1]; simp, ?_⟩
  rw [putW1, putW2]
  exact .same h
def n_Words_is_over : List Str := ["self"]
def b_Words_is_over : Sl := .cons (.ret (.cmp .eqI (.fld "Words" "at" (.var 0)) (.blf .len (.cons (.fld "Words" "words" (.var 0)) (.nil))))) (.nil)
def sp_Words_is_over : GSp := fun ds g Q _ => ∃ (p : Addr) (ws : List Str) (at_ : Nat), ds = [.ref p] ∧ g p = some (wdO ws at_) ∧ Q (.v (.bl (decide (at_ = ws.length)))) g
theorem w_Words_is_over : ∀ ds g Q W, sp_Words_is_over ds g Q W → wSs b_Words_is_over (bodyEnds g Q W) (startD 1 ds) g := by
  rintro ds g Q W ⟨p, ws, at_, rfl, hp, h⟩
  change wSs _ _ [some _] g
  walk_at "stp"; walk_at "wx"
  refine ⟨_, _, hp, lookW2, _, _, hp, lookW1, ws.map .str, .inl rfl, ?_⟩
  have e : decide ((at_ : Int) = (ws.length : Int)) = decide (at_ = ws.length) := by
    by_cases c : at_ = ws.length
    · rw [decide_eq_true c, decide_eq_true (by omega)]
    · rw [decide_eq_false c, decide_eq_false (by omega)]
  walk_at "wx"
  rw [e]
  exact .same h
def n_Words_refuse : List Str := ["self"]
def b_Words_refuse : Sl := .cons (.raiseAt "NoText" (.fld "Words" "at" (.var 0))) (.nil)
def sp_Words_refuse : GSp := fun ds g Q W => ∃ (p : Addr) (ws : List Str) (at_ : Nat), ds = [.ref p] ∧ g p = some (wdO ws at_) ∧ W ⟨"NoText", some (at_ : Nat)⟩ g
theorem w_Words_refuse : ∀ ds g Q W, sp_Words_refuse ds g Q W → wSs b_Words_refuse (bodyEnds g Q W) (startD 1 ds) g := by
  rintro ds g Q W ⟨p, ws, at_, rfl, hp, h⟩
  change wSs _ _ [some _] g
  walk_at "stp"; walk_at "wx"
  refine ⟨_, _, hp, lookW2, ?_⟩
  exact ⟨g, gle_rfl, h⟩
def n_Words_word : List Str := ["self"]
def b_Words_word_3 : Sl := .cons (.ret (.idx .l (.fld "Words" "words" (.var 0)) (.fld "Words" "at" (.var 0)))) (.nil)
def b_Words_word : Sl := .cons (.ifs (.mthd "Words" "is_over" sp_Words_is_over (.var 0) (.nil)) (.cons (.expr (.mthd "Words" "refuse" sp_Words_refuse (.var 0) (.nil))) (.nil)) (.nil)) (.part b_Words_word_3)
def sp_Words_word : GSp := fun ds g Q W => ∃ (p : Addr) (ws : List Str) (at_ : Nat), ds = [.ref p] ∧ g p = some (wdO ws at_) ∧ at_ ≤ ws.length ∧ (∀ w, ws[at_]? = some w → Q (.v (.str w)) g) ∧ (at_ = ws.length → W ⟨"NoText", some (at_ : Nat)⟩ g)
theorem w_Words_word : ∀ ds g Q W, sp_Words_word ds g Q W → wSs b_Words_word (bodyEnds g Q W) (startD 1 ds) g := by
  rintro ds g Q W ⟨p, ws, at_, rfl, hp, hle, h, hw⟩
  change wSs _ _ [some _] g
  walk_at "stp"; walk_at "wx"
  refine ⟨⟨_, hp, lookW0 (by decide +kernel) (by decide +kernel)⟩, p, ws, at_, rfl, hp, ?_⟩
  by_cases c : at_ = ws.length
  · rw [decide_eq_true c]
    walk_at "wx"
    exact ⟨⟨_, hp, lookW0 (by decide +kernel) (by decide +kernel)⟩, p, ws, at_, rfl, hp, ⟨g, gle_rfl, hw c⟩⟩
  · rw [decide_eq_false c]
    walk_at "wx"
    walk_at "stp"; walk_at "wx"
    have hi : at_ < ws.length := by omega
    refine ⟨_, _, hp, lookW1, _, _, hp, lookW2, _, .str ws[at_], rfl, ?_, .same (h _ (List.getElem?_eq_getElem hi))⟩
    rw [atI_nat', List.getElem?_map, List.getElem?_eq_getElem hi]; rfl
def n_Words_number : List Str := ["self", "low", "high", "found"]
def b_Words_number_4 : Sl := .cons (.sfld "Words" "at" (.var 0) (.bin .addI (.fld "Words" "at" (.var 0)) (.cst (.int 1)))) (.cons (.ret (.var 3)) (.nil))
def b_Words_number_2 : Sl := .cons (.ifs (.cmp .isN (.var 3) (.cst .non)) (.cons (.expr (.mthd "Words" "refuse" sp_Words_refuse (.var 0) (.nil))) (.nil)) (.nil)) (.part b_Words_number_4)
def b_Words_number : Sl := .cons (.asg (.nm 3) (.call "number_in" sp_number_in (.cons (.mthd "Words" "word" sp_Words_word (.var 0) (.nil)) (.cons (.var 1) (.cons (.var 2) (.nil)))))) (.part b_Words_number_2)
def sp_Words_number : GSp := fun ds g Q W => ∃ (p : Addr) (ws : List Str) (at_ : Nat) (lo hi : Int), ds = [.ref p, .int lo, .int hi] ∧ g p = some (wdO ws at_) ∧ at_ ≤ ws.length ∧ (∀ w ∈ ws, w.length ≤ sizeLine) ∧
  (∀ w n, ws[at_]? = some w → numIn w lo hi = some n → Q (.v (.int n)) (gup g p (wdO ws (at_ + 1)))) ∧ ((∀ w, ws[at_]? = some w → numIn w lo hi = none) → W ⟨"NoText", some (at_ : Nat)⟩ g)
theorem w_Words_number : ∀ ds g Q W, sp_Words_number ds g Q W → wSs b_Words_number (bodyEnds g Q W) (startD 4 ds) g := by
  rintro ds g Q W ⟨p, ws, at_, lo, hi, rfl, hp, hle, hz, h, hw⟩
  change wSs _ _ [some _, some _, some _, none] g
  walk_at "stp"; walk_at "wx"
  refine ⟨⟨_, hp, lookW0 (by decide +kernel) (by decide +kernel)⟩, p, ws, at_, rfl, hp, hle, fun w hwd => ?_, fun e => ⟨g, gle_rfl, hw fun w e2 => by rw [e, List.getElem?_eq_none (Nat.le_refl _)] at e2; cases e2⟩⟩
  refine ⟨w, lo, hi, rfl, hz w (List.mem_of_getElem? hwd), ?_⟩
  cases e : numIn w lo hi with
  | none =>
    unfold optW
    walk_at "wx"
    walk_at "stp"; walk_at "wx"
    refine ⟨⟨_, hp, lookW0 (by decide +kernel) (by decide +kernel)⟩, p, ws, at_, rfl, hp, ⟨g, gle_rfl, hw fun w' e2 => by rw [hwd] at e2; cases e2; exact e⟩⟩
  | some n =>
    unfold optW
    walk_at "wx"
    walk_at "stp"; walk_at "wx"
    walk_at "stp"; walk_at "wx"
    refine ⟨_, _, hp, lookW2, _, hp, by simp, ?_⟩
    rw [putW3]
    exact .same (h w n hwd e)
def n_Words_is_there : List Str := ["self", "word"]
def b_Words_is_there_3 : Sl := .cons (.sfld "Words" "at" (.var 0) (.bin .addI (.fld "Words" "at" (.var 0)) (.cst (.int 1)))) (.cons (.ret (.cst (.bl true))) (.nil))
def b_Words_is_there : Sl := .cons (.ifs (.or (.mthd "Words" "is_over" sp_Words_is_over (.var 0) (.nil)) (.cmp .neS (.idx .l (.fld "Words" "words" (.var 0)) (.fld "Words" "at" (.var 0))) (.var 1))) (.cons (.ret (.cst (.bl false))) (.nil)) (.nil)) (.part b_Words_is_there_3)
def sp_Words_is_there : GSp := fun ds g Q _ => ∃ (p : Addr) (ws : List Str) (at_ : Nat) (w : Str), ds = [.ref p, .str w] ∧ g p = some (wdO ws at_) ∧ at_ ≤ ws.length ∧
  (ws[at_]? = some w → Q (.v (.bl true)) (gup g p (wdO ws (at_ + 1)))) ∧ (ws[at_]? ≠ some w → Q (.v (.bl false)) g)
theorem w_Words_is_there : ∀ ds g Q W, sp_Words_is_there ds g Q W → wSs b_Words_is_there (bodyEnds g Q W) (startD 2 ds) g := by
  rintro ds g Q W ⟨p, ws, at_, w, rfl, hp, hle, h1, h2⟩
  change wSs _ _ [some _, some _] g
  walk_at "stp"; walk_at "wx"
  refine ⟨⟨_, hp, lookW0 (by decide +kernel) (by decide +kernel)⟩, p, ws, at_, rfl, hp, ?_⟩
  by_cases c : at_ = ws.length
  · rw [decide_eq_true c]
    walk_at "wx"
    exact .same (h2 (by rw [c, List.getElem?_eq_none (Nat.le_refl _)]; simp))
  · rw [decide_eq_false c]
    walk_at "wx"
    have hi : at_ < ws.length := by omega
    have hg := List.getElem?_eq_getElem hi
    refine ⟨_, _, hp, lookW1, _, _, hp, lookW2, _, .str ws[at_], rfl, ?_, ?_⟩
    · rw [atI_nat', List.getElem?_map, hg]; rfl
    · walk_at "wx"
      by_cases e : ws[at_] = w
      · rw [if_neg (by simpa using e)]
        walk_at "stp"; walk_at "wx"
        refine ⟨_, _, hp, lookW2, _, hp, by simp, ?_⟩
        rw [putW3]
        exact .same (h1 (by rw [hg, e]))
      · rw [if_pos (by simpa using e)]
        exact .same (h2 (by rw [hg]; simpa using e))
end G3

/-! Q2: claims, rows, books and ladders read -/
namespace G3
open PySem L2
local macro_rules | `(tactic| walk_at "wp") => `(tactic| simp only [wSs, wS, wE, wL, wO, wSq, wRet, wRetN, wAsg, wIf, wDrop, wFor, wPut, wNx, wArgs, wCons, wNil, wCall, wComp, wI, wB, wSeqT, wSeqL, wRng1, wRng2, wEnumL, wEnumT, wVar, wC, wBin, wUn, wNot, wAnd, wOr, wIte, wTest, wTrk, wSlc, wNoPart, wPart, fMt, List.getElem?_cons_succ, List.getElem?_cons_zero, tupOf, lstOf, gdOf, ex_eq, ex_eq', ex2_eq, ex2_eq', Bfn.f, Mth.f, compT, tgB, setAll, wipeD, wYes, List.map_cons, List.map_nil, List.set_cons_succ, List.set_cons_zero, List.length_cons, List.length_nil, Bop.f, Cop.f, Iop.f, fI2, fS2, fIx, fNeg, true_and, and_true, if_true, bodyEnds, R.fz_v, R.fz_tl, atI_0, atI_1, atI_2, atI_3, Option.some.injEq, DO.lst.injEq, decide_eq_true_eq, gup_same, gup_gup, or_false, ixN_s0, ixN_s1, ixN_s2, List.length_set, List.length_map, szl, Nat.reduceAdd, Nat.zero_add, Nat.reduceLeDiff, Nat.zero_le, Int.reduceLE, exists_eq', false_or, fAddT, fAddL, fSl, rolOf, Bool.not_true, Bool.not_false, Bool.false_eq_true, if_false, Bool.false_xor, Bool.xor_true, beq_self_eq_true, isiB_bb, isiB_ll, decide_true, isiB_tt, fIsN, isNon, wTry, wCallv, wRaise, setO, gonO, tryEnds, wMk, wMkAt, wAt, wRaiseAt, isKd, Mth.kd, eq_self, wDis, wDnK, wDnT, wDput, wPar, wRngD, wFld, wMeth, wNew, wSfld, wCh3, wPar3, wRevL, wDputM, wText, fInT, wIng, wSfld2, wDead])
local macro_rules | `(tactic| walk_at "stp") => `(tactic| first | (rw [wHid_eq]; conv in (wSs _) => arg 1; whnf) | (conv in (wSs _) => arg 1; whnf))
local macro_rules | `(tactic| walk_at "wx") => `(tactic| simp only [wSs, wS, wE, wL, wO, wSq, wRet, wRetN, wAsg, wIf, wDrop, wFor, wPut, wNx, wArgs, wCons, wNil, wCall, wComp, wI, wB, wSeqT, wSeqL, wRng1, wRng2, wEnumL, wEnumT, wVar, wC, wBin, wUn, wNot, wAnd, wOr, wIte, wTest, wTrk, wSlc, wNoPart, wPart, fMt, List.getElem?_cons_succ, List.getElem?_cons_zero, tupOf, lstOf, gdOf, ex_eq, ex_eq', ex2_eq, ex2_eq', Bfn.f, Mth.f, compT, tgB, setAll, wipeD, wYes, List.map_cons, List.map_nil, List.set_cons_succ, List.set_cons_zero, List.length_cons, List.length_nil, Bop.f, Cop.f, Iop.f, fI2, fS2, fIx, fNeg, true_and, and_true, if_true, bodyEnds, R.fz_v, R.fz_tl, atI_0, atI_1, atI_2, atI_3, Option.some.injEq, DO.lst.injEq, decide_eq_true_eq, gup_same, gup_gup, or_false, ixN_s0, ixN_s1, ixN_s2, List.length_set, List.length_map, szl, Nat.reduceAdd, Nat.zero_add, Nat.reduceLeDiff, Nat.zero_le, Int.reduceLE, exists_eq', false_or, fAddT, fAddL, fSl, rolOf, Bool.not_true, Bool.not_false, Bool.false_eq_true, if_false, Bool.false_xor, Bool.xor_true, beq_self_eq_true, isiB_bb, isiB_ll, decide_true, isiB_tt, fIsN, isNon, wTry, wCallv, wRaise, setO, gonO, tryEnds, wMk, wMkAt, wAt, wRaiseAt, isKd, Mth.kd, eq_self, wDis, wDnK, wDnT, wDput, wPar, wRngD, wFld, wMeth, wNew, wSfld, wCh3, wPar3, wRevL, wDputM, wText, fInT, wIng, wSfld2, wDead, eIn_tI, eIn_lI, eEq_tI, eEq_lI, eEq_tl, eEq_tl', eEq_bl, eEq_tN, eEq_lN, fIsE, Ufn.f, fSSet, fLSet, if_true, if_false, Bool.true_xor, Bool.xor_false, seqOf, fIxA, fSlA, fAddA, fInA, wSeqA, wEnumA, isKd, Mth.kd, fB2, okD_int, okD_bl, okDs_intsN, inD_ints, fRepL, fAddS, fIxS, eEq_int, wCh, fLRng, fRevT, fRow2, fTRng, fLSetT])
theorem drop_at {α : Type} {l : List α} {i : Nat} {x : α} (h : l[i]? = some x) : l.drop i = x :: l.drop (i + 1) := by
  obtain ⟨h1, h2⟩ := List.getElem?_eq_some_iff.mp h
  rw [List.drop_eq_getElem_cons h1, h2]
/-- a test, by what makes it true, what false -/
theorem test_two {tc : TTD} {ρ : DEnv} {g : GH} {K : Bool → GH → Prop} {X : XKD} (A B : Prop) (h1 : ∀ K : Bool → GH → Prop, (A → K true g) → (B → K false g) → tc ρ g K X) (hA : A → K true g) (hB : B → K false g) : tc ρ g K X := h1 K hA hB
def lastI (says : List Int) : Int := says.getLast?.getD 0
/-- may a say stand behind others -/
def sayOk (says : List Int) (s : Int) : Bool := !(decide (says ≠ [] ∧ s ≤ lastI says) || says.contains (0 - s))
/-- says read, and where that ends -/
def saysR : List Str → Nat → List Int → Option (List Int) × Nat
  | [], n, says => if says = [] then (none, n) else (some says, n)
  | w :: r, n, says => if says ≠ [] ∧ w = Str.ofString "/" then (some says, n) else match sayIn w with
    | none => (none, n)
    | some s => if sayOk says s = true then saysR r (n + 1) (says ++ [s]) else (none, n)
def claimR : List Str → Nat → Option (List Int) × Nat
  | [], n => (none, n)
  | w :: r, n => if w = Str.ofString "none" then (some [], n + 1) else saysR (w :: r) n []
/-- how far a claim's words go -/
theorem saysR_at : ∀ (l : List Str) (n : Nat) (says : List Int), n ≤ (saysR l n says).2 ∧ (saysR l n says).2 ≤ n + l.length
  | [], n, says => by unfold saysR; split <;> simp
  | w :: r, n, says => by
    unfold saysR
    split
    · simp
    · cases sayIn w with
      | none => simp
      | some s =>
        dsimp only
        split
        · have := saysR_at r (n + 1) (says ++ [s])
          simp only [List.length_cons]; omega
        · simp
def n_Words_claim : List Str := ["self", "says", "say"]
def b_Words_claim_11 : Sl := .cons (.ret (.blf .tuple (.cons (.var 1) (.nil)))) (.nil)
def b_Words_claim_9 : Sl := .cons (.expr (.mth .append (.var 1) (.cons (.var 2) (.nil)))) (.cons (.sfld "Words" "at" (.var 0) (.bin .addI (.fld "Words" "at" (.var 0)) (.cst (.int 1)))) (.nil))
def b_Words_claim_7 : Sl := .cons (.ifs (.or (.cmp .isN (.var 2) (.cst .non)) (.or (.and (.cmp .neD (.var 1) (.lst (.nil))) (.cmp .leI (.var 2) (.idx .l (.var 1) (.neg (.cst (.int 1)))))) (.cmp .inS (.bin .subI (.cst (.int 0)) (.var 2)) (.var 1)))) (.cons (.expr (.mthd "Words" "refuse" sp_Words_refuse (.var 0) (.nil))) (.nil)) (.nil)) (.part b_Words_claim_9)
def b_Words_claim_6 : Sl := .cons (.asg (.nm 2) (.call "say_in" sp_say_in (.cons (.mthd "Words" "word" sp_Words_word (.var 0) (.nil)) (.nil)))) (.part b_Words_claim_7)
def b_Words_claim_4 : Sl := .cons (.asg (.nm 1) (.trk (.lst (.nil)))) (.cons (.whl (.or (.cmp .eqD (.var 1) (.lst (.nil))) (.and (.not (.mthd "Words" "is_over" sp_Words_is_over (.var 0) (.nil))) (.cmp .neS (.idx .l (.fld "Words" "words" (.var 0)) (.fld "Words" "at" (.var 0))) (.cst (.str "/"))))) (.part b_Words_claim_6)) (.part b_Words_claim_11))
def b_Words_claim_2 : Sl := .cons (.sfld "Words" "at" (.var 0) (.bin .addI (.fld "Words" "at" (.var 0)) (.cst (.int 1)))) (.cons (.ret (.tup (.nil))) (.nil))
def b_Words_claim : Sl := .cons (.ifs (.cmp .eqS (.mthd "Words" "word" sp_Words_word (.var 0) (.nil)) (.cst (.str "none"))) (.part b_Words_claim_2) (.nil)) (.part b_Words_claim_4)
def sp_Words_claim : GSp := fun ds g Q W => ∃ (p : Addr) (ws : List Str) (at_ : Nat), ds = [.ref p] ∧ g p = some (wdO ws at_) ∧ at_ ≤ ws.length ∧ ws.length ≤ 100000 ∧ (∀ w ∈ ws, w.length ≤ sizeLine) ∧
  (∀ c n, claimR (ws.drop at_) at_ = (some c, n) → Q (.v (cl c)) (gup g p (wdO ws n))) ∧ (∀ n, claimR (ws.drop at_) at_ = (none, n) → W ⟨"NoText", some (n : Nat)⟩ (gup g p (wdO ws n)))
theorem w_Words_claim : ∀ ds g Q W, sp_Words_claim ds g Q W → wSs b_Words_claim (bodyEnds g Q W) (startD 3 ds) g := by
  rintro ds g Q W ⟨p, ws, at_, rfl, hp, hle, hwl, hz, h, hw⟩
  change wSs _ _ [some _, none, none] g
  have hself : gup g p (wdO ws at_) = g := gup_self hp
  walk_at "stp"; walk_at "wx"
  refine ⟨⟨_, hp, lookW0 (by decide +kernel) (by decide +kernel)⟩, p, ws, at_, rfl, hp, hle, fun w hwd => ?_, fun e => ?_⟩
  · have hd : ws.drop at_ = w :: ws.drop (at_ + 1) := drop_at hwd
    walk_at "wx"
    by_cases c : w = Str.ofString "none"
    · rw [if_pos c]
      have e1 : claimR (ws.drop at_) at_ = (some [], at_ + 1) := by rw [hd]; show (if w = _ then _ else _) = _; rw [if_pos c]
      walk_at "stp"; walk_at "wx"
      refine ⟨_, _, hp, lookW2, _, hp, by simp, ?_⟩
      rw [putW3]
      exact .same (h [] _ e1)
    · rw [if_neg c]
      have e1 : claimR (ws.drop at_) at_ = saysR (ws.drop at_) at_ [] := by rw [hd]; show (if w = _ then _ else _) = _; rw [if_neg c]
      rw [e1] at h hw
      walk_at "stp"; walk_at "wx"
      intro q hq
      have pq : p ≠ q := fun e => by rw [e, hq] at hp; cases hp
      walk_at "stp"; walk_at "wx"
      refine whlW_dec (m := ws.length - at_) (fun m ρ g' => ∃ (n : Nat) (says : List Int) (x2 : Option D), m = ws.length - n ∧ n ≤ ws.length ∧ says.length ≤ n ∧ g' = gup (gup g p (wdO ws n)) q (.lst (says.map .int)) ∧ saysR (ws.drop at_) at_ [] = saysR (ws.drop n) n says ∧ ρ = [some (.ref p), some (.ref q), x2]) ⟨at_, [], none, rfl, hle, by simp, by rw [hself]; rfl, rfl, rfl⟩ ?_
      rintro m ρ g' ⟨n, says, x2, rfl, hn, hsl, rfl, es, rfl⟩ Nx hNx
      have gp : gup (gup g p (wdO ws n)) q (.lst (says.map .int)) p = some (wdO ws n) := by rw [gup_ne pq]; exact gup_same
      refine test_two (says = [] ∨ (n < ws.length ∧ ws[n]? ≠ some (Str.ofString "/"))) (says ≠ [] ∧ (n = ws.length ∨ ws[n]? = some (Str.ofString "/"))) (fun K hA hB => ?_) (fun hA => ?_) (fun hB => ?_)
      · walk_at "wx"
        by_cases c1 : says = []
        · refine feqT (d := .lst (says.map .int)) (e := .lst []) (resR_ref gup_same) rfl okD_intsL (by decide) (by rw [c1]; rfl) ?_
          walk_at "wx"
          exact hA (.inl c1)
        · refine feqF (d := .lst (says.map .int)) (e := .lst []) (resR_ref gup_same) rfl okD_intsL (by decide) (by cases says with | nil => exact absurd rfl c1 | cons _ _ => rfl) ?_
          walk_at "wx"
          refine ⟨⟨_, gp, lookW0 (by decide +kernel) (by decide +kernel)⟩, p, ws, n, rfl, gp, ?_⟩
          by_cases c2 : n = ws.length
          · rw [decide_eq_true c2]
            walk_at "wx"
            exact hB ⟨c1, .inl c2⟩
          · rw [decide_eq_false c2]
            have hi : n < ws.length := by omega
            have hg := List.getElem?_eq_getElem hi
            walk_at "wx"
            refine ⟨_, _, gp, lookW1, _, _, gp, lookW2, _, .str ws[n], rfl, ?_, ?_⟩
            · rw [atI_nat', List.getElem?_map, hg]; rfl
            · walk_at "wx"
              by_cases c3 : ws[n] = Str.ofString "/"
              · rw [decide_eq_true c3]
                exact hB ⟨c1, .inr (by rw [hg, c3])⟩
              · rw [decide_eq_false c3]
                exact hA (.inr ⟨hi, by rw [hg]; simpa using c3⟩)
      · walk_at "wx"
        have gq0 : gup g p (wdO ws n) q = none := by rw [gup_ne pq.symm]; exact hq
        have forget : ∀ (us : List D) b o, gup g p (wdO ws n) b = some o → gup (gup g p (wdO ws n)) q (.lst us) b = some o := fun us => gle_up gle_rfl gq0
        refine ⟨⟨_, gp, lookW0 (by decide +kernel) (by decide +kernel)⟩, p, ws, n, rfl, gp, hn, fun w hwn => ?_, fun en => ?_⟩
        · have hd : ws.drop n = w :: ws.drop (n + 1) := drop_at hwn
          have hc3 : ¬ (says ≠ [] ∧ w = Str.ofString "/") := by
            rintro ⟨z1, z2⟩
            rcases hA with z | ⟨z3, z4⟩
            · exact z1 z
            · exact z4 (by rw [hwn, z2])
          have hsr : saysR (ws.drop n) n says = match sayIn w with | none => (none, n) | some s => if sayOk says s = true then saysR (ws.drop (n + 1)) (n + 1) (says ++ [s]) else (none, n) := by
            rw [hd]
            show (if says ≠ [] ∧ w = Str.ofString "/" then (some says, n) else _) = _
            rw [if_neg hc3]
          have hbad : saysR (ws.drop n) n says = (none, n) → W ⟨"NoText", some (n : Nat)⟩ (gup g p (wdO ws n)) := fun e => hw n (es.trans e)
          have hi := (List.getElem?_eq_some_iff.mp hwn).1
          refine ⟨w, rfl, hz w (List.mem_of_getElem? hwn), ?_⟩
          cases e1 : sayIn w with
          | none =>
            rw [e1] at hsr
            unfold optW
            walk_at "wx"
            walk_at "stp"; walk_at "wx"
            exact ⟨⟨_, gp, lookW0 (by decide +kernel) (by decide +kernel)⟩, p, ws, n, rfl, gp, ⟨_, forget _, hbad hsr⟩⟩
          | some s =>
            rw [e1] at hsr
            dsimp only at hsr
            unfold optW
            walk_at "wx"
            have refuse : ∀ K : QK, sayOk says s = false → (∃ fs, gup (gup g p (wdO ws n)) q (.lst (says.map .int)) p = some (DO.ins (Str.ofString "Words") fs) ∧ List.lookup (Str.ofString "refuse") fs = none) ∧
                sp_Words_refuse [D.ref p] (gup (gup g p (wdO ws n)) q (.lst (says.map .int))) K fun x g1 => XRet W x [some (D.ref p), some (D.ref q), some (D.int s)] g1 := fun K eb => by
              rw [eb, if_neg Bool.false_ne_true] at hsr
              exact ⟨⟨_, gp, lookW0 (by decide +kernel) (by decide +kernel)⟩, p, ws, n, rfl, gp, ⟨_, forget _, hbad hsr⟩⟩
            have good : sayOk says s = true → wHid (wSs b_Words_claim_9) { nx := Nx, rt := RetOk g Q, ct := Nx, ex := XRet W } [some (D.ref p), some (D.ref q), some (D.int s)] (gup (gup g p (wdO ws n)) q (.lst (says.map .int))) := fun eg => by
              rw [eg, if_pos rfl] at hsr
              walk_at "stp"; walk_at "wx"
              refine ⟨by omega, _, .int (n : Nat), by rw [gup_ne pq]; exact gup_same, lookW2, _, by rw [gup_ne pq]; exact gup_same, by simp, ?_⟩
              rw [putW3]
              refine hNx _ _ _ (show ws.length - (n + 1) < ws.length - n by omega) ⟨n + 1, says ++ [s], _, rfl, hi, by simp; omega, ?_, es.trans hsr, rfl⟩
              rw [gup_in1 pq, List.map_append]; rfl
            walk_at "stp"; walk_at "wx"
            have tail : (∃ a, a = decide (says ≠ [] ∧ s ≤ lastI says) ∧ a = false) → fIn false (R.v (D.int (0 - s))) (R.v (D.ref q)) (gup (gup g p (wdO ws n)) q (DO.lst (List.map D.int says))) fun d g1 => match d with
                | R.v (D.bl b) => if b = true then (∃ fs, g1 p = some (DO.ins (Str.ofString "Words") fs) ∧ List.lookup (Str.ofString "refuse") fs = none) ∧ sp_Words_refuse [D.ref p] g1
                      (fun x g1 => wHid (wSs b_Words_claim_9) { nx := Nx, rt := RetOk g Q, ct := Nx, ex := XRet W } [some (D.ref p), some (D.ref q), some (D.int s)] g1)
                      fun x g1 => XRet W x [some (D.ref p), some (D.ref q), some (D.int s)] g1
                  else wHid (wSs b_Words_claim_9) { nx := Nx, rt := RetOk g Q, ct := Nx, ex := XRet W } [some (D.ref p), some (D.ref q), some (D.int s)] g1
                | x => False := by
              rintro ⟨a, ea, ea2⟩
              rw [eIn_rI gup_same]
              cases ec : says.contains (0 - s) with
              | true =>
                walk_at "wx"
                exact refuse _ (by unfold sayOk; rw [ec]; simp)
              | false =>
                walk_at "wx"
                exact good (by unfold sayOk; rw [ec, ← ea, ea2]; rfl)
            by_cases c1 : says = []
            · refine feqT (d := .lst (says.map .int)) (e := .lst []) (resR_ref gup_same) rfl okD_intsL (by decide) (by rw [c1]; rfl) ?_
              walk_at "wx"
              exact tail ⟨false, by rw [decide_eq_false (fun z => z.1 c1)], rfl⟩
            · refine feqF (d := .lst (says.map .int)) (e := .lst []) (resR_ref gup_same) rfl okD_intsL (by decide) (by cases says with | nil => exact absurd rfl c1 | cons _ _ => rfl) ?_
              walk_at "wx"
              obtain ⟨y, hy, ey, ea⟩ := atI_map_last D.int (xs := says) (by cases says with | nil => exact absurd rfl c1 | cons _ _ => simp)
              have el : lastI says = y := by unfold lastI; rw [List.getLast?_eq_getElem?, ey]; rfl
              refine ⟨.int y, ea, ?_⟩
              by_cases c2 : s ≤ y
              · walk_at "wx"
                rw [if_pos c2]
                exact refuse _ (by unfold sayOk; rw [decide_eq_true ⟨c1, by rw [el]; exact c2⟩]; rfl)
              · walk_at "wx"
                rw [if_neg c2]
                exact tail ⟨false, by rw [decide_eq_false (fun z => c2 (by rw [← el]; exact z.2))], rfl⟩
        · refine ⟨_, forget _, hw n ?_⟩
          have hs0 : says = [] := by
            rcases hA with z | ⟨z1, z2⟩
            · exact z
            · omega
          rw [es, en, List.drop_of_length_le (Nat.le_refl _), hs0]
          rfl
      · walk_at "wx"
        walk_at "stp"; walk_at "wx"
        have gq0 : gup g p (wdO ws n) q = none := by rw [gup_ne pq.symm]; exact hq
        refine .less (gle_up gle_rfl gq0) (h says n ?_)
        rw [es]
        obtain ⟨z1, z2⟩ := hB
        rcases z2 with z2 | z2
        · rw [z2, List.drop_of_length_le (Nat.le_refl _)]
          show (if says = [] then _ else _) = _
          rw [if_neg z1]
        · rw [drop_at z2]
          show (if says ≠ [] ∧ Str.ofString "/" = Str.ofString "/" then _ else _) = _
          rw [if_pos ⟨z1, rfl⟩]
  · refine ⟨g, gle_rfl, ?_⟩
    have := hw at_
    rw [e, List.drop_of_length_le (Nat.le_refl _), ← e, hself] at this
    exact this rfl
/-! ### rows -/
def numAt (ws : List Str) (n : Nat) (lo hi : Int) : Option Int := match ws[n]? with
  | some w => numIn w lo hi
  | none => none
/-- a row read behind so many -/
def rowR (ws : List Str) (n many : Nat) : Option D × Nat :=
  if ws[n]? = some (Str.ofString "book") then (match numAt ws (n + 1) 0 15 with | some k => (some (bookD k), n + 2) | none => (none, n + 1))
  else if many = 0 ∨ ws[n]? ≠ some (Str.ofString "cut") then (none, n)
  else match numAt ws (n + 1) 0 ((many : Int) - 1) with
    | none => (none, n + 1)
    | some a => match numAt ws (n + 2) 0 ((many : Int) - 1) with
      | none => (none, n + 2)
      | some b => match numAt ws (n + 3) 1 8 with
        | none => (none, n + 3)
        | some k => (some (wayD a b k), n + 4)
/-- a number's word, asked -/
theorem num_ask {p : Addr} {ws : List Str} {n : Nat} {lo hi : Int} {g : GH} {Q : QK} {W : XKD} (hp : g p = some (wdO ws n)) (hle : n ≤ ws.length) (hz : ∀ w ∈ ws, w.length ≤ sizeLine)
    (h : ∀ k, numAt ws n lo hi = some k → n < ws.length → Q (.v (.int k)) (gup g p (wdO ws (n + 1)))) (hw : numAt ws n lo hi = none → W ⟨"NoText", some (n : Nat)⟩ g) : sp_Words_number [.ref p, .int lo, .int hi] g Q W :=
  ⟨p, ws, n, lo, hi, rfl, hp, hle, hz, fun w k e1 e2 => h k (by unfold numAt; rw [e1]; exact e2) (List.getElem?_eq_some_iff.mp e1).1, fun e => hw (by
    unfold numAt
    cases e1 : ws[n]? with
    | none => rfl
    | some w => exact e w e1)⟩
def n_Words_row : List Str := ["self", "many", "one", "other"]
def b_Words_row_7 : Sl := .cons (.ret (.tup (.cons (.cst (.str "cut")) (.cons (.var 2) (.cons (.var 3) (.cons (.mthd "Words" "number" sp_Words_number (.var 0) (.cons (.cst (.int 1)) (.cons (.glb "MOST_THING" (.int 8)) (.nil)))) (.nil))))))) (.nil)
def b_Words_row_6 : Sl := .cons (.asg (.nm 3) (.mthd "Words" "number" sp_Words_number (.var 0) (.cons (.cst (.int 0)) (.cons (.bin .subI (.var 1) (.cst (.int 1))) (.nil))))) (.part b_Words_row_7)
def b_Words_row_5 : Sl := .cons (.asg (.nm 2) (.mthd "Words" "number" sp_Words_number (.var 0) (.cons (.cst (.int 0)) (.cons (.bin .subI (.var 1) (.cst (.int 1))) (.nil))))) (.part b_Words_row_6)
def b_Words_row_3 : Sl := .cons (.ifs (.or (.cmp .eqI (.var 1) (.cst (.int 0))) (.not (.mthd "Words" "is_there" sp_Words_is_there (.var 0) (.cons (.cst (.str "cut")) (.nil))))) (.cons (.expr (.mthd "Words" "refuse" sp_Words_refuse (.var 0) (.nil))) (.nil)) (.nil)) (.part b_Words_row_5)
def b_Words_row_2 : Sl := .cons (.ret (.tup (.cons (.cst (.str "book")) (.cons (.mthd "Words" "number" sp_Words_number (.var 0) (.cons (.cst (.int 0)) (.cons (.bin .subI (.glb "MOST_CLAIMS" (.int 16)) (.cst (.int 1))) (.nil)))) (.nil))))) (.nil)
def b_Words_row : Sl := .cons (.ifs (.mthd "Words" "is_there" sp_Words_is_there (.var 0) (.cons (.cst (.str "book")) (.nil))) (.part b_Words_row_2) (.nil)) (.part b_Words_row_3)
def sp_Words_row : GSp := fun ds g Q W => ∃ (p : Addr) (ws : List Str) (at_ many : Nat), ds = [.ref p, .int (many : Int)] ∧ g p = some (wdO ws at_) ∧ at_ ≤ ws.length ∧ (∀ w ∈ ws, w.length ≤ sizeLine) ∧
  (∀ d n, rowR ws at_ many = (some d, n) → n ≤ ws.length → Q (.v d) (gup g p (wdO ws n))) ∧ (∀ n, rowR ws at_ many = (none, n) → W ⟨"NoText", some (n : Nat)⟩ (gup g p (wdO ws n)))
theorem w_Words_row : ∀ ds g Q W, sp_Words_row ds g Q W → wSs b_Words_row (bodyEnds g Q W) (startD 4 ds) g := by
  rintro ds g Q W ⟨p, ws, at_, many, rfl, hp, hle, hz, h, hw⟩
  change wSs _ _ [some _, some _, none, none] g
  have hself : gup g p (wdO ws at_) = g := gup_self hp
  have nm : ∀ (m : Str) (n : Nat) (g' : GH), g' = gup g p (wdO ws n) → (m == Str.ofString "words") = false → (m == Str.ofString "at") = false → ∃ fs, g' p = some (DO.ins (Str.ofString "Words") fs) ∧ List.lookup m fs = none := fun m n g' e h1 h2 => by
    subst e
    exact ⟨_, gup_same, lookW0 h1 h2⟩
  walk_at "stp"; walk_at "wx"
  refine ⟨nm (Str.ofString "is_there") at_ g hself.symm (by decide +kernel) (by decide +kernel), p, ws, at_, _, rfl, hp, hle, fun e1 => ?_, fun e1 => ?_⟩
  · have hi := (List.getElem?_eq_some_iff.mp e1).1
    walk_at "wx"
    walk_at "stp"; walk_at "wx"
    refine ⟨⟨_, rfl, lookW0 (by decide +kernel) (by decide +kernel)⟩, num_ask gup_same (by omega) hz (fun k ek hlt => ?_) fun ek => ?_⟩
    · rw [show (16 : Int) - 1 = 15 from rfl] at ek
      rw [gup_gup]
      exact .same (h (bookD k) (at_ + 2) (by unfold rowR; rw [if_pos e1, ek]) (by omega))
    · rw [show (16 : Int) - 1 = 15 from rfl] at ek
      exact ⟨_, gle_rfl, hw (at_ + 1) (by unfold rowR; rw [if_pos e1, ek])⟩
  · walk_at "wx"
    walk_at "stp"; walk_at "wx"
    have ref : rowR ws at_ many = (none, at_) → ∀ K : QK, (∃ fs, g p = some (DO.ins (Str.ofString "Words") fs) ∧ List.lookup (Str.ofString "refuse") fs = none) ∧ sp_Words_refuse [D.ref p] g K fun x g1 => XRet W x [some (D.ref p), some (D.int many), none, none] g1 := fun e K =>
      ⟨nm (Str.ofString "refuse") at_ g hself.symm (by decide +kernel) (by decide +kernel), p, ws, at_, rfl, hp, ⟨_, gle_rfl, by have := hw at_ e; rw [hself] at this; exact this⟩⟩
    by_cases c1 : many = 0
    · rw [if_pos (by omega)]
      exact ref (by unfold rowR; rw [if_neg e1, if_pos (.inl c1)]) _
    rw [if_neg (by omega)]
    refine ⟨nm (Str.ofString "is_there") at_ g hself.symm (by decide +kernel) (by decide +kernel), p, ws, at_, _, rfl, hp, hle, fun e2 => ?_, fun e2 => ?_⟩
    · have hi := (List.getElem?_eq_some_iff.mp e2).1
      have c2 : ¬ (many = 0 ∨ ws[at_]? ≠ some (Str.ofString "cut")) := by
        rintro (z | z)
        · exact c1 z
        · exact z e2
      walk_at "wx"
      walk_at "stp"; walk_at "wx"
      refine ⟨⟨_, rfl, lookW0 (by decide +kernel) (by decide +kernel)⟩, num_ask gup_same (by omega) hz (fun a ea hlt => ?_) fun ea => ⟨_, gle_rfl, hw (at_ + 1) (by unfold rowR; rw [if_neg e1, if_neg c2, ea])⟩⟩
      rw [gup_gup]
      walk_at "wx"
      walk_at "stp"; walk_at "wx"
      refine ⟨⟨_, rfl, lookW0 (by decide +kernel) (by decide +kernel)⟩, num_ask (n := at_ + 2) gup_same (by omega) hz (fun b eb hlt2 => ?_) fun eb => ⟨_, gle_rfl, hw (at_ + 2) (by unfold rowR; rw [if_neg e1, if_neg c2, ea]; dsimp only; rw [eb])⟩⟩
      rw [gup_gup]
      walk_at "wx"
      walk_at "stp"; walk_at "wx"
      refine ⟨⟨_, rfl, lookW0 (by decide +kernel) (by decide +kernel)⟩, num_ask (n := at_ + 3) gup_same (by omega) hz (fun k ek hlt3 => ?_) fun ek => ⟨_, gle_rfl, hw (at_ + 3) (by unfold rowR; rw [if_neg e1, if_neg c2, ea]; dsimp only; rw [eb]; dsimp only; rw [ek])⟩⟩
      rw [gup_gup]
      walk_at "wx"
      exact .same (h (wayD a b k) (at_ + 4) (by unfold rowR; rw [if_neg e1, if_neg c2, ea]; dsimp only; rw [eb]; dsimp only; rw [ek]) (by omega))
    · walk_at "wx"
      exact ref (by unfold rowR; rw [if_neg e1, if_pos (.inr e2)]) _
theorem spl_ok : ∀ (l acc : List Nat), (∀ p ∈ TL.spl [32] 0 acc l, p.length ≤ acc.length + l.length) ∧ 1 ≤ (TL.spl [32] 0 acc l).length ∧ (TL.spl [32] 0 acc l).length ≤ l.length + 1
  | [], acc => by rw [TL.spl_nil]; simp
  | c :: r, acc => by
    cases e : TL.pre [32] (c :: r) with
    | true =>
      rw [TL.spl_hit e]
      obtain ⟨h1, h2, h3⟩ := spl_ok r []
      refine ⟨fun p hp => ?_, by simp, by simp only [List.length_cons]; exact Nat.succ_le_succ h3⟩
      rcases List.mem_cons.mp hp with rfl | hp
      · omega
      · have := h1 p hp
        simp only [List.length_cons, List.length_nil] at this ⊢; omega
    | false =>
      rw [TL.spl_miss e]
      obtain ⟨h1, h2, h3⟩ := spl_ok r (acc ++ [c])
      refine ⟨fun p hp => ?_, h2, by simp only [List.length_cons]; omega⟩
      have := h1 p hp
      simp only [List.length_append, List.length_cons, List.length_nil] at this ⊢; omega
def spS : Str := Str.ofString " "
theorem split_ok (t : Str) : (∀ w ∈ Txt.split t spS, w.length ≤ t.length) ∧ 1 ≤ (Txt.split t spS).length ∧ (Txt.split t spS).length ≤ t.length + 1 := by
  have e0 : TL.tl spS = [32] := by decide +kernel
  have hs := TL.split_spl t spS (by rw [e0]; simp) (TL.kind_ok (by decide +kernel))
  rw [e0] at hs
  obtain ⟨h1, h2, h3⟩ := spl_ok (TL.tl t) []
  rw [← hs] at h1 h2 h3
  rw [List.length_map] at h2 h3
  have hl := TL.len_tl t
  refine ⟨fun w hw => ?_, h2, by omega⟩
  have := h1 (TL.tl w) (List.mem_map.mpr ⟨w, hw, rfl⟩)
  rw [TL.len_tl, hl]
  simpa using this
end G3

/-! Q3: books and ladders read, word by word -/
namespace G3
open PySem L2
local macro_rules | `(tactic| walk_at "wp") => `(tactic| simp only [wSs, wS, wE, wL, wO, wSq, wRet, wRetN, wAsg, wIf, wDrop, wFor, wPut, wNx, wArgs, wCons, wNil, wCall, wComp, wI, wB, wSeqT, wSeqL, wRng1, wRng2, wEnumL, wEnumT, wVar, wC, wBin, wUn, wNot, wAnd, wOr, wIte, wTest, wTrk, wSlc, wNoPart, wPart, fMt, List.getElem?_cons_succ, List.getElem?_cons_zero, tupOf, lstOf, gdOf, ex_eq, ex_eq', ex2_eq, ex2_eq', Bfn.f, Mth.f, compT, tgB, setAll, wipeD, wYes, List.map_cons, List.map_nil, List.set_cons_succ, List.set_cons_zero, List.length_cons, List.length_nil, Bop.f, Cop.f, Iop.f, fI2, fS2, fIx, fNeg, true_and, and_true, if_true, bodyEnds, R.fz_v, R.fz_tl, atI_0, atI_1, atI_2, atI_3, Option.some.injEq, DO.lst.injEq, decide_eq_true_eq, gup_same, gup_gup, or_false, ixN_s0, ixN_s1, ixN_s2, List.length_set, List.length_map, szl, Nat.reduceAdd, Nat.zero_add, Nat.reduceLeDiff, Nat.zero_le, Int.reduceLE, exists_eq', false_or, fAddT, fAddL, fSl, rolOf, Bool.not_true, Bool.not_false, Bool.false_eq_true, if_false, Bool.false_xor, Bool.xor_true, beq_self_eq_true, isiB_bb, isiB_ll, decide_true, isiB_tt, fIsN, isNon, wTry, wCallv, wRaise, setO, gonO, tryEnds, wMk, wMkAt, wAt, wRaiseAt, isKd, Mth.kd, eq_self, wDis, wDnK, wDnT, wDput, wPar, wRngD, wFld, wMeth, wNew, wSfld, wCh3, wPar3, wRevL, wDputM, wText, fInT, wIng, wSfld2, wDead])
local macro_rules | `(tactic| walk_at "stp") => `(tactic| first | (rw [wHid_eq]; conv in (wSs _) => arg 1; whnf) | (conv in (wSs _) => arg 1; whnf))
local macro_rules | `(tactic| walk_at "wx") => `(tactic| simp only [wSs, wS, wE, wL, wO, wSq, wRet, wRetN, wAsg, wIf, wDrop, wFor, wPut, wNx, wArgs, wCons, wNil, wCall, wComp, wI, wB, wSeqT, wSeqL, wRng1, wRng2, wEnumL, wEnumT, wVar, wC, wBin, wUn, wNot, wAnd, wOr, wIte, wTest, wTrk, wSlc, wNoPart, wPart, fMt, List.getElem?_cons_succ, List.getElem?_cons_zero, tupOf, lstOf, gdOf, ex_eq, ex_eq', ex2_eq, ex2_eq', Bfn.f, Mth.f, compT, tgB, setAll, wipeD, wYes, List.map_cons, List.map_nil, List.set_cons_succ, List.set_cons_zero, List.length_cons, List.length_nil, Bop.f, Cop.f, Iop.f, fI2, fS2, fIx, fNeg, true_and, and_true, if_true, bodyEnds, R.fz_v, R.fz_tl, atI_0, atI_1, atI_2, atI_3, Option.some.injEq, DO.lst.injEq, decide_eq_true_eq, gup_same, gup_gup, or_false, ixN_s0, ixN_s1, ixN_s2, List.length_set, List.length_map, szl, Nat.reduceAdd, Nat.zero_add, Nat.reduceLeDiff, Nat.zero_le, Int.reduceLE, exists_eq', false_or, fAddT, fAddL, fSl, rolOf, Bool.not_true, Bool.not_false, Bool.false_eq_true, if_false, Bool.false_xor, Bool.xor_true, beq_self_eq_true, isiB_bb, isiB_ll, decide_true, isiB_tt, fIsN, isNon, wTry, wCallv, wRaise, setO, gonO, tryEnds, wMk, wMkAt, wAt, wRaiseAt, isKd, Mth.kd, eq_self, wDis, wDnK, wDnT, wDput, wPar, wRngD, wFld, wMeth, wNew, wSfld, wCh3, wPar3, wRevL, wDputM, wText, fInT, wIng, wSfld2, wDead, eIn_tI, eIn_lI, eEq_tI, eEq_lI, eEq_tl, eEq_tl', eEq_bl, eEq_tN, eEq_lN, fIsE, Ufn.f, fSSet, fLSet, if_true, if_false, Bool.true_xor, Bool.xor_false, seqOf, fIxA, fSlA, fAddA, fInA, wSeqA, wEnumA, isKd, Mth.kd, fB2, okD_int, okD_bl, okDs_intsN, inD_ints, fRepL, fAddS, fIxS, eEq_int, wCh, fLRng, fRevT, fRow2, fTRng, fLSetT])
/-- a book's words, one by one: where they can't stand, or the book -/
def bookA : List Str → Nat → List (List Int) → Option (List Int) → Nat ⊕ List (List Int)
  | [], n, _, none => .inl n
  | [], _, cs, some ss => .inr (cs ++ [ss])
  | w :: r, n, cs, none => if w = Str.ofString "none" then bookA r (n + 1) cs (some []) else match sayIn w with
    | none => .inl n
    | some s => bookA r (n + 1) cs (some [s])
  | w :: r, n, cs, some ss => if w = Str.ofString "/" then (if cs.length = 15 then .inl n else bookA r (n + 1) (cs ++ [ss]) none) else if ss = [] then .inl n else match sayIn w with
    | none => .inl n
    | some s => if sayOk ss s = true then bookA r (n + 1) cs (some (ss ++ [s])) else .inl n
theorem drop_next {ws r : List Str} {w : Str} {n : Nat} (h : w :: r = ws.drop n) : ws.drop (n + 1) = r := by
  rw [← List.drop_drop, ← h]; rfl
theorem bookA_says {ws : List Str} {cs : List (List Int)} : ∀ (l : List Str) (n : Nat) (says : List Int), l = ws.drop n → says ≠ [] → bookA l n cs (some says) = match saysR l n says with
    | (none, e) => .inl e
    | (some ss, m) => bookA (ws.drop m) m cs (some ss)
  | [], n, says, hl, hs => by
    unfold saysR
    rw [if_neg hs]
    dsimp only
    rw [← hl]
  | w :: r, n, says, hl, hs => by
    unfold saysR
    by_cases c : w = Str.ofString "/"
    · rw [if_pos ⟨hs, c⟩]
      dsimp only
      rw [← hl]
    · rw [if_neg (fun z => c z.2)]
      show (if w = _ then _ else if says = [] then _ else _) = _
      rw [if_neg c, if_neg hs]
      cases sayIn w with
      | none => rfl
      | some s =>
        dsimp only
        by_cases ok : sayOk says s = true
        · rw [if_pos ok, if_pos ok]
          exact bookA_says r (n + 1) (says ++ [s]) (drop_next hl).symm (by simp)
        · rw [if_neg ok, if_neg ok]
theorem bookA_claim {ws : List Str} {cs : List (List Int)} {n : Nat} : bookA (ws.drop n) n cs none = match claimR (ws.drop n) n with
    | (none, e) => .inl e
    | (some ss, m) => bookA (ws.drop m) m cs (some ss) := by
  cases hl : ws.drop n with
  | nil => rfl
  | cons w r =>
    by_cases c : w = Str.ofString "none"
    · rw [show claimR (w :: r) n = if w = Str.ofString "none" then (some [], n + 1) else saysR (w :: r) n [] from rfl, if_pos c]
      dsimp only
      rw [drop_next hl.symm]
      show (if w = _ then _ else _) = _
      rw [if_pos c]
    · rw [show claimR (w :: r) n = if w = Str.ofString "none" then (some [], n + 1) else saysR (w :: r) n [] from rfl, if_neg c]
      show (if w = _ then _ else _) = _
      rw [if_neg c]
      unfold saysR
      rw [if_neg (by simp)]
      cases e : sayIn w with
      | none => rfl
      | some s =>
        have ok : sayOk [] s = true := by unfold sayOk; simp
        dsimp only
        rw [if_pos ok]
        exact bookA_says r (n + 1) [s] (drop_next hl.symm).symm (by simp)
/-- where a claim ends -/
theorem saysR_stop {ws : List Str} : ∀ (l : List Str) (n : Nat) (says ss : List Int) (m : Nat), l = ws.drop n → saysR l n says = (some ss, m) → ws.length ≤ m ∨ ws[m]? = some (Str.ofString "/")
  | [], n, says, ss, m, hl, h => by
    unfold saysR at h
    split at h
    · cases h
    · cases h
      left
      have := congrArg List.length hl
      rw [List.length_drop] at this
      simp at this; omega
  | w :: r, n, says, ss, m, hl, h => by
    unfold saysR at h
    split at h
    · rename_i c
      cases h
      right
      have : (ws.drop n)[0]? = some w := by rw [← hl]; rfl
      rw [List.getElem?_drop, Nat.add_zero] at this
      rw [this, c.2]
    · cases e : sayIn w with
      | none => rw [e] at h; cases h
      | some s =>
        rw [e] at h
        dsimp only at h
        split at h
        · exact saysR_stop r (n + 1) _ ss m (drop_next hl).symm h
        · cases h
theorem claimR_stop {ws : List Str} {n : Nat} {ss : List Int} {m : Nat} (h : claimR (ws.drop n) n = (some ss, m)) : n < m ∧ m ≤ ws.length ∧ (ss = [] ∨ ws.length ≤ m ∨ ws[m]? = some (Str.ofString "/")) := by
  cases hl : ws.drop n with
  | nil => rw [hl] at h; cases h
  | cons w r =>
    have hn : n < ws.length := by
      have := congrArg List.length hl
      rw [List.length_drop, List.length_cons] at this
      omega
    have hr := congrArg List.length hl
    rw [List.length_drop, List.length_cons] at hr
    rw [hl] at h
    by_cases c : w = Str.ofString "none"
    · have h : (if w = _ then (some [], n + 1) else _) = (some ss, m) := h
      rw [if_pos c] at h
      cases h
      exact ⟨by omega, by omega, .inl rfl⟩
    · have h : (if w = _ then _ else saysR (w :: r) n []) = (some ss, m) := h
      rw [if_neg c] at h
      have h2 := h
      unfold saysR at h2
      rw [if_neg (by simp)] at h2
      cases e : sayIn w with
      | none => rw [e] at h2; cases h2
      | some s =>
        rw [e] at h2
        dsimp only at h2
        have ok : sayOk [] s = true := by unfold sayOk; simp
        rw [if_pos ok] at h2
        have := saysR_at r (n + 1) ([] ++ [s])
        rw [h2] at this
        exact ⟨by have := this.1; dsimp only at this; omega, by have := this.2; dsimp only at this; omega, .inr (saysR_stop (w :: r) n [] ss m hl.symm h)⟩
theorem gle_set {g g' : GH} {a : Addr} {o : DO} (h : ∀ b u, g b = some u → g' b = some u) (hn : g a = none) : ∀ b u, g b = some u → gup g' a o b = some u := fun b u e => by
  rw [gup_ne (fun z => by rw [z, hn] at e; cases e)]; exact h b u e
def b_read_book_7 : Sl := .cons (.ret (.blf .tuple (.cons (.var 2) (.nil)))) (.nil)
def b_read_book_6 : Sl := .cons (.expr (.mth .append (.var 2) (.cons (.mthd "Words" "claim" sp_Words_claim (.var 1) (.nil)) (.nil)))) (.nil)
def b_read_book_4 : Sl := .cons (.ifs (.or (.cmp .eqI (.blf .len (.cons (.var 2) (.nil))) (.glb "MOST_CLAIMS" (.int 16))) (.not (.mthd "Words" "is_there" sp_Words_is_there (.var 1) (.cons (.cst (.str "/")) (.nil))))) (.cons (.expr (.mthd "Words" "refuse" sp_Words_refuse (.var 1) (.nil))) (.nil)) (.nil)) (.part b_read_book_6)
def b_read_book_3 : Sl := .cons (.whl (.not (.mthd "Words" "is_over" sp_Words_is_over (.var 1) (.nil))) (.part b_read_book_4)) (.part b_read_book_7)
def b_read_book : Sl := .cons (.asg (.nm 1) (.new "Words" sp_Words___init__ (.cons (.var 0) (.nil)))) (.cons (.asg (.nm 2) (.trk (.lst (.cons (.mthd "Words" "claim" sp_Words_claim (.var 1) (.nil)) (.nil))))) (.part b_read_book_3))
def sp_read_book : GSp := fun ds g Q W => ∃ (t : Str), ds = [.str t] ∧ t.length ≤ 90000 ∧ (∀ B, bookA (Txt.split t spS) 0 [] none = .inr B → Q (.v (cls B)) g) ∧ (∀ n, bookA (Txt.split t spS) 0 [] none = .inl n → W ⟨"NoText", some (n : Nat)⟩ g)
theorem w_read_book : ∀ ds g Q W, sp_read_book ds g Q W → wSs b_read_book (bodyEnds g Q W) (startD 3 ds) g := by
  rintro ds g Q W ⟨t, rfl, hl, h, hw⟩
  change wSs _ _ [some _, none, none] g
  obtain ⟨s1, s2, s3⟩ := split_ok t
  walk_at "stp"; walk_at "wx"
  intro p hp
  refine ⟨p, t, rfl, gup_same, by rw [szl]; omega, rfl, ?_⟩
  rw [gup_gup]
  have hz : ∀ w ∈ Txt.split t spS, w.length ≤ sizeLine := fun w hw => by have := s1 w hw; rw [szl]; omega
  have hwl : (Txt.split t spS).length ≤ 100000 := by omega
  show _ ∧ sp_Words_claim [D.ref p] (gup g p (wdO (Txt.split t spS) 0)) _ _
  generalize Txt.split t spS = ws at *
  have hR : bookA ws 0 [] none = match claimR (ws.drop 0) 0 with | (none, e) => .inl e | (some ss, m) => bookA (ws.drop m) m [] (some ss) := bookA_claim (ws := ws) (cs := []) (n := 0)
  refine ⟨⟨_, gup_same, lookW0 (by decide +kernel) (by decide +kernel)⟩, p, ws, 0, rfl, gup_same, Nat.zero_le _, hwl, hz, fun c n ec => ?_, fun n ec => ?_⟩
  rotate_left
  · rw [ec] at hR
    exact ⟨g, gle_set (gle_set gle_rfl hp) hp, hw n hR⟩
  rw [ec] at hR
  dsimp only at hR
  obtain ⟨k1, k2, k3⟩ := claimR_stop ec
  rw [gup_gup]
  intro q hq
  have pq : p ≠ q := fun e => by rw [← e, gup_same] at hq; cases hq
  have gq : g q = none := by rw [gup_ne pq.symm] at hq; exact hq
  walk_at "stp"; walk_at "wx"
  refine whlW_dec (m := ws.length - n) (fun m ρ g' => ∃ (n : Nat) (cs : List (List Int)) (ss : List Int), m = ws.length - n ∧ n ≤ ws.length ∧ cs.length ≤ 15 ∧ g' = gup (gup g p (wdO ws n)) q (.lst ((cs ++ [ss]).map cl)) ∧ bookA ws 0 [] none = bookA (ws.drop n) n cs (some ss) ∧
    (ss = [] ∨ ws.length ≤ n ∨ ws[n]? = some (Str.ofString "/")) ∧ ρ = [some (.str t), some (.ref p), some (.ref q)]) ⟨n, [], c, rfl, k2, by decide, rfl, hR, k3, rfl⟩ ?_
  rintro m ρ g' ⟨n, cs, ss, rfl, hn, hcs, rfl, hR, hst, rfl⟩ Nx hNx
  have gp : gup (gup g p (wdO ws n)) q (.lst ((cs ++ [ss]).map cl)) p = some (wdO ws n) := by rw [gup_ne pq]; exact gup_same
  have forget : ∀ (n : Nat) (us : List D) b o, g b = some o → gup (gup g p (wdO ws n)) q (.lst us) b = some o := fun n us => gle_set (gle_set gle_rfl hp) gq
  walk_at "wx"
  refine ⟨⟨_, gp, lookW0 (by decide +kernel) (by decide +kernel)⟩, p, ws, n, rfl, gp, ?_⟩
  by_cases c1 : n = ws.length
  · rw [decide_eq_true c1]
    walk_at "wx"
    walk_at "stp"; walk_at "wx"
    refine .less (forget _ _) (h _ ?_)
    rw [hR, c1, List.drop_of_length_le (Nat.le_refl _)]
    rfl
  · rw [decide_eq_false c1]
    walk_at "wx"
    walk_at "stp"; walk_at "wx"
    have hi : n < ws.length := by omega
    have hg := List.getElem?_eq_getElem hi
    have hd := drop_at hg
    have refuse : ∀ K : QK, bookA ws 0 [] none = .inl n → (∃ fs, gup (gup g p (wdO ws n)) q (DO.lst (List.map cl (cs ++ [ss]))) p = some (DO.ins (Str.ofString "Words") fs) ∧ List.lookup (Str.ofString "refuse") fs = none) ∧
        sp_Words_refuse [D.ref p] (gup (gup g p (wdO ws n)) q (DO.lst (List.map cl (cs ++ [ss])))) K fun x g1 => XRet W x [some (D.str t), some (D.ref p), some (D.ref q)] g1 := fun K e =>
      ⟨⟨_, gp, lookW0 (by decide +kernel) (by decide +kernel)⟩, p, ws, n, rfl, gp, ⟨g, forget _ _, hw n e⟩⟩
    have hstep : bookA (ws.drop n) n cs (some ss) = if ws[n] = Str.ofString "/" then (if cs.length = 15 then .inl n else bookA (ws.drop (n + 1)) (n + 1) (cs ++ [ss]) none) else if ss = [] then .inl n else match sayIn ws[n] with
        | none => .inl n
        | some s => if sayOk ss s = true then bookA (ws.drop (n + 1)) (n + 1) cs (some (ss ++ [s])) else .inl n := by rw [hd]; rfl
    have hss : ws[n] ≠ Str.ofString "/" → ss = [] := fun e => by
      rcases hst with z | z | z
      · exact z
      · omega
      · rw [hg] at z; exact absurd (Option.some.inj z) e
    by_cases c2 : cs.length = 15
    · rw [if_pos (by simp [c2])]
      refine refuse _ ?_
      rw [hR, hstep]
      by_cases c3 : ws[n] = Str.ofString "/"
      · rw [if_pos c3, if_pos c2]
      · rw [if_neg c3, if_pos (hss c3)]
    rw [if_neg (by simp; omega)]
    refine ⟨⟨_, gp, lookW0 (by decide +kernel) (by decide +kernel)⟩, p, ws, n, _, rfl, gp, hn, fun e3 => ?_, fun e3 => ?_⟩
    rotate_left
    · walk_at "wx"
      refine refuse _ ?_
      have c3 : ws[n] ≠ Str.ofString "/" := fun z => e3 (by rw [hg, z])
      rw [hR, hstep, if_neg c3, if_pos (hss c3)]
    have c3 : ws[n] = Str.ofString "/" := by rw [hg] at e3; exact Option.some.inj e3
    rw [hstep, if_pos c3, if_neg c2] at hR
    rw [gup_in1 pq]
    walk_at "wx"
    walk_at "stp"; walk_at "wx"
    have gp2 : gup (gup g p (wdO ws (n + 1))) q (.lst ((cs ++ [ss]).map cl)) p = some (wdO ws (n + 1)) := by rw [gup_ne pq]; exact gup_same
    rw [bookA_claim] at hR
    refine ⟨⟨_, gp2, lookW0 (by decide +kernel) (by decide +kernel)⟩, p, ws, n + 1, rfl, gp2, hi, hwl, hz, fun c m ec => ?_, fun m ec => ?_⟩
    · rw [ec] at hR
      dsimp only at hR
      obtain ⟨k1, k2, k3⟩ := claimR_stop ec
      rw [gup_in1 pq]
      refine ⟨_, gup_same, by simp; omega, ?_⟩
      rw [gup_gup]
      refine hNx (ws.length - m) _ _ (by omega) ⟨m, cs ++ [ss], c, rfl, k2, by simp; omega, by simp, hR, k3, rfl⟩
    · rw [ec] at hR
      refine ⟨g, ?_, hw m hR⟩
      rw [gup_in1 pq]
      exact forget _ _
/-! ### ladders -/
/-- a row begun: of the book or a cut, its numbers -/
abbrev PartR := Option (Bool × List Int)
def fullR : Bool × List Int → Option D
  | (true, [k]) => some (bookD k)
  | (false, [a, b, k]) => some (wayD a b k)
  | _ => none
def ladA : List Str → Nat → List D → PartR → Nat ⊕ List D
  | [], n, _, none => .inl n
  | [], n, rows, some p => match fullR p with | some d => .inr (rows ++ [d]) | none => .inl n
  | w :: r, n, rows, none => if w = Str.ofString "book" then ladA r (n + 1) rows (some (true, [])) else if rows = [] ∨ w ≠ Str.ofString "cut" then .inl n else ladA r (n + 1) rows (some (false, []))
  | w :: r, n, rows, some p => match fullR p with
    | some d => if rows.length < 199 ∧ w = Str.ofString "/" then ladA r (n + 1) (rows ++ [d]) none else .inl n
    | none => match numIn w (if p.2.length = 2 then 1 else 0) (if p.1 = true then 15 else if p.2.length = 2 then 8 else (rows.length : Int) - 1) with
      | none => .inl n
      | some i => ladA r (n + 1) rows (some (p.1, p.2 ++ [i]))
/-- one number of a row -/
theorem ladA_num {ws : List Str} {rows : List D} {n : Nat} {p : Bool × List Int} (hf : fullR p = none) : ladA (ws.drop n) n rows (some p) = match numAt ws n (if p.2.length = 2 then 1 else 0) (if p.1 = true then 15 else if p.2.length = 2 then 8 else (rows.length : Int) - 1) with
    | none => .inl n
    | some i => ladA (ws.drop (n + 1)) (n + 1) rows (some (p.1, p.2 ++ [i])) := by
  unfold numAt
  cases e : ws[n]? with
  | none =>
    rw [List.drop_of_length_le (by have := List.getElem?_eq_none_iff.mp e; omega)]
    show (match fullR p with | some d => _ | none => _) = _
    rw [hf]
  | some w =>
    rw [drop_at e]
    show (match fullR p with | some d => _ | none => _) = _
    rw [hf]
theorem ladA_row {ws : List Str} {rows : List D} {n : Nat} : ladA (ws.drop n) n rows none = match rowR ws n rows.length with
    | (none, e) => .inl e
    | (some d, m) => match ws[m]? with
      | none => .inr (rows ++ [d])
      | some w => if rows.length < 199 ∧ w = Str.ofString "/" then ladA (ws.drop (m + 1)) (m + 1) (rows ++ [d]) none else .inl m := by
  have full : ∀ (p : Bool × List Int) (d : D) (m : Nat), fullR p = some d → ladA (ws.drop m) m rows (some p) = match ws[m]? with
      | none => .inr (rows ++ [d])
      | some w => if rows.length < 199 ∧ w = Str.ofString "/" then ladA (ws.drop (m + 1)) (m + 1) (rows ++ [d]) none else .inl m := fun p d m hf => by
    cases e : ws[m]? with
    | none =>
      rw [List.drop_of_length_le (by have := List.getElem?_eq_none_iff.mp e; omega)]
      show (match fullR p with | some d => _ | none => _) = _
      rw [hf]
    | some w =>
      rw [drop_at e]
      show (match fullR p with | some d => _ | none => _) = _
      rw [hf]
  unfold rowR
  cases e : ws[n]? with
  | none =>
    rw [List.drop_of_length_le (by have := List.getElem?_eq_none_iff.mp e; omega), if_neg (by simp), if_pos (.inr (by simp))]
    rfl
  | some w =>
    rw [drop_at e]
    show (if w = Str.ofString "book" then _ else _) = _
    by_cases c1 : w = Str.ofString "book"
    · rw [if_pos c1, if_pos (by rw [c1]), ladA_num (by rfl)]
      show (match numAt ws (n + 1) 0 15 with | none => _ | some i => _) = _
      cases numAt ws (n + 1) 0 15 with
      | none => rfl
      | some k => exact full (true, [k]) (bookD k) (n + 2) rfl
    · rw [if_neg c1, if_neg (fun z => c1 (Option.some.inj z))]
      have ez : (rows = [] ∨ w ≠ Str.ofString "cut") ↔ (rows.length = 0 ∨ some w ≠ some (Str.ofString "cut")) := by
        rw [List.length_eq_zero_iff]; simp
      by_cases c2 : rows = [] ∨ w ≠ Str.ofString "cut"
      · rw [if_pos c2, if_pos (ez.mp c2)]
      · rw [if_neg c2, if_neg (fun z => c2 (ez.mpr z)), ladA_num (by rfl)]
        show (match numAt ws (n + 1) 0 ((rows.length : Int) - 1) with | none => _ | some i => _) = _
        cases numAt ws (n + 1) 0 ((rows.length : Int) - 1) with
        | none => rfl
        | some a =>
          dsimp only
          rw [ladA_num (by rfl)]
          show (match numAt ws (n + 2) 0 ((rows.length : Int) - 1) with | none => _ | some i => _) = _
          cases numAt ws (n + 2) 0 ((rows.length : Int) - 1) with
          | none => rfl
          | some b =>
            dsimp only
            rw [ladA_num (by rfl)]
            show (match numAt ws (n + 3) 1 8 with | none => _ | some i => _) = _
            cases numAt ws (n + 3) 1 8 with
            | none => rfl
            | some k => exact full (false, [a, b, k]) (wayD a b k) (n + 4) rfl
theorem rowR_at {ws : List Str} {n many : Nat} {d : D} {m : Nat} (h : rowR ws n many = (some d, m)) : n < m := by
  unfold rowR at h
  split at h
  · cases e : numAt ws (n + 1) 0 15 with
    | none => rw [e] at h; cases h
    | some k => rw [e] at h; cases h; omega
  · split at h
    · cases h
    · cases e : numAt ws (n + 1) 0 ((many : Int) - 1) with
      | none => rw [e] at h; cases h
      | some a =>
        rw [e] at h
        dsimp only at h
        cases e2 : numAt ws (n + 2) 0 ((many : Int) - 1) with
        | none => rw [e2] at h; cases h
        | some b =>
          rw [e2] at h
          dsimp only at h
          cases e3 : numAt ws (n + 3) 1 8 with
          | none => rw [e3] at h; cases h
          | some k => rw [e3] at h; cases h; omega
def n_read_ladder : List Str := ["text", "words", "rows"]
def b_read_ladder_6 : Sl := .cons (.expr (.mth .append (.var 2) (.cons (.mthd "Words" "row" sp_Words_row (.var 1) (.cons (.blf .len (.cons (.var 2) (.nil))) (.nil))) (.nil)))) (.nil)
def b_read_ladder_4 : Sl := .cons (.ifs (.or (.cmp .eqI (.blf .len (.cons (.var 2) (.nil))) (.glb "MOST_ROWS" (.int 200))) (.not (.mthd "Words" "is_there" sp_Words_is_there (.var 1) (.cons (.cst (.str "/")) (.nil))))) (.cons (.expr (.mthd "Words" "refuse" sp_Words_refuse (.var 1) (.nil))) (.nil)) (.nil)) (.part b_read_ladder_6)
def b_read_ladder_3 : Sl := .cons (.whl (.not (.mthd "Words" "is_over" sp_Words_is_over (.var 1) (.nil))) (.part b_read_ladder_4)) (.cons (.ret (.var 2)) (.nil))
def b_read_ladder : Sl := .cons (.asg (.nm 1) (.new "Words" sp_Words___init__ (.cons (.var 0) (.nil)))) (.cons (.asg (.nm 2) (.trk (.lst (.cons (.mthd "Words" "row" sp_Words_row (.var 1) (.cons (.cst (.int 0)) (.nil))) (.nil))))) (.part b_read_ladder_3))
def sp_read_ladder : GSp := fun ds g Q W => ∃ (t : Str), ds = [.str t] ∧ t.length ≤ 90000 ∧ (∀ R, ladA (Txt.split t spS) 0 [] none = .inr R → Q (.tl R) g) ∧ (∀ n, ladA (Txt.split t spS) 0 [] none = .inl n → W ⟨"NoText", some (n : Nat)⟩ g)
theorem w_read_ladder : ∀ ds g Q W, sp_read_ladder ds g Q W → wSs b_read_ladder (bodyEnds g Q W) (startD 3 ds) g := by
  rintro ds g Q W ⟨t, rfl, hl, h, hw⟩
  change wSs _ _ [some _, none, none] g
  obtain ⟨s1, s2, s3⟩ := split_ok t
  walk_at "stp"; walk_at "wx"
  intro p hp
  refine ⟨p, t, rfl, gup_same, by rw [szl]; omega, rfl, ?_⟩
  rw [gup_gup]
  have hz : ∀ w ∈ Txt.split t spS, w.length ≤ sizeLine := fun w hw => by have := s1 w hw; rw [szl]; omega
  have hwl : (Txt.split t spS).length ≤ 100000 := by omega
  show _ ∧ sp_Words_row [D.ref p, D.int ((0 : Nat) : Int)] (gup g p (wdO (Txt.split t spS) 0)) _ _
  generalize Txt.split t spS = ws at *
  have hR := ladA_row (ws := ws) (rows := []) (n := 0)
  rw [List.drop_zero] at hR
  refine ⟨⟨_, gup_same, lookW0 (by decide +kernel) (by decide +kernel)⟩, p, ws, 0, 0, rfl, gup_same, Nat.zero_le _, hz, fun d n ec hnl => ?_, fun n ec => ?_⟩
  rotate_left
  · rw [show rowR ws 0 ([] : List D).length = _ from ec] at hR
    exact ⟨g, gle_set (gle_set gle_rfl hp) hp, hw n hR⟩
  rw [show rowR ws 0 ([] : List D).length = _ from ec] at hR
  dsimp only at hR
  have k1 := rowR_at ec
  rw [gup_gup]
  intro q hq
  have pq : p ≠ q := fun e => by rw [← e, gup_same] at hq; cases hq
  have gq : g q = none := by rw [gup_ne pq.symm] at hq; exact hq
  walk_at "stp"; walk_at "wx"
  refine whlW_dec (m := ws.length - n) (fun m ρ g' => ∃ (n : Nat) (rows : List D) (d : D), m = ws.length - n ∧ n ≤ ws.length ∧ rows.length ≤ 199 ∧ g' = gup (gup g p (wdO ws n)) q (.lst (rows ++ [d])) ∧ (ladA ws 0 [] none = match ws[n]? with
      | none => .inr (rows ++ [d])
      | some w => if rows.length < 199 ∧ w = Str.ofString "/" then ladA (ws.drop (n + 1)) (n + 1) (rows ++ [d]) none else .inl n) ∧ ρ = [some (.str t), some (.ref p), some (.ref q)]) ⟨n, [], d, rfl, hnl, by decide, rfl, hR, rfl⟩ ?_
  rintro m ρ g' ⟨n, rows, d, rfl, hn, hcs, rfl, hR, rfl⟩ Nx hNx
  have gp : gup (gup g p (wdO ws n)) q (.lst (rows ++ [d])) p = some (wdO ws n) := by rw [gup_ne pq]; exact gup_same
  have forget : ∀ (n : Nat) (us : List D) b o, g b = some o → gup (gup g p (wdO ws n)) q (.lst us) b = some o := fun n us => gle_set (gle_set gle_rfl hp) gq
  walk_at "wx"
  refine ⟨⟨_, gp, lookW0 (by decide +kernel) (by decide +kernel)⟩, p, ws, n, rfl, gp, ?_⟩
  by_cases c1 : n = ws.length
  · rw [decide_eq_true c1]
    walk_at "wx"
    rw [c1, List.getElem?_eq_none (Nat.le_refl _)] at hR
    exact .tl gup_same gq gq (forget _ _) (h _ hR)
  · rw [decide_eq_false c1]
    walk_at "wx"
    walk_at "stp"; walk_at "wx"
    have hi : n < ws.length := by omega
    have hg := List.getElem?_eq_getElem hi
    rw [hg] at hR
    dsimp only at hR
    have refuse : ∀ K : QK, ladA ws 0 [] none = .inl n → (∃ fs, gup (gup g p (wdO ws n)) q (DO.lst (rows ++ [d])) p = some (DO.ins (Str.ofString "Words") fs) ∧ List.lookup (Str.ofString "refuse") fs = none) ∧
        sp_Words_refuse [D.ref p] (gup (gup g p (wdO ws n)) q (DO.lst (rows ++ [d]))) K fun x g1 => XRet W x [some (D.str t), some (D.ref p), some (D.ref q)] g1 := fun K e =>
      ⟨⟨_, gp, lookW0 (by decide +kernel) (by decide +kernel)⟩, p, ws, n, rfl, gp, ⟨g, forget _ _, hw n e⟩⟩
    by_cases c2 : rows.length = 199
    · rw [if_pos (by simp [c2])]
      refine refuse _ ?_
      rw [hR, if_neg (by omega)]
    rw [if_neg (by simp; omega)]
    refine ⟨⟨_, gp, lookW0 (by decide +kernel) (by decide +kernel)⟩, p, ws, n, _, rfl, gp, hn, fun e3 => ?_, fun e3 => ?_⟩
    rotate_left
    · walk_at "wx"
      refine refuse _ ?_
      rw [hR, if_neg (fun z => e3 (by rw [hg, z.2]))]
    have c3 : ws[n] = Str.ofString "/" := by rw [hg] at e3; exact Option.some.inj e3
    rw [if_pos ⟨by omega, c3⟩] at hR
    rw [gup_in1 pq]
    walk_at "wx"
    walk_at "stp"; walk_at "wx"
    have gp2 : gup (gup g p (wdO ws (n + 1))) q (.lst (rows ++ [d])) p = some (wdO ws (n + 1)) := by rw [gup_ne pq]; exact gup_same
    rw [ladA_row] at hR
    refine ⟨⟨_, gp2, lookW0 (by decide +kernel) (by decide +kernel)⟩, p, ws, n + 1, (rows ++ [d]).length, rfl, gp2, hi, hz, fun d2 m ec hml => ?_, fun m ec => ?_⟩
    · rw [ec] at hR
      dsimp only at hR
      have k1 := rowR_at ec
      rw [gup_in1 pq]
      refine ⟨_, gup_same, by simp; omega, ?_⟩
      rw [gup_gup]
      exact hNx (ws.length - m) _ _ (by omega) ⟨m, rows ++ [d], d2, rfl, hml, by simp; omega, rfl, hR, rfl⟩
    · rw [ec] at hR
      refine ⟨g, ?_, hw m hR⟩
      rw [gup_in1 pq]
      exact forget _ _
end G3

/-! Q4: claims, books and ladders shown -/
namespace G3
open PySem L2
local macro_rules | `(tactic| walk_at "wp") => `(tactic| simp only [wSs, wS, wE, wL, wO, wSq, wRet, wRetN, wAsg, wIf, wDrop, wFor, wPut, wNx, wArgs, wCons, wNil, wCall, wComp, wI, wB, wSeqT, wSeqL, wRng1, wRng2, wEnumL, wEnumT, wVar, wC, wBin, wUn, wNot, wAnd, wOr, wIte, wTest, wTrk, wSlc, wNoPart, wPart, fMt, List.getElem?_cons_succ, List.getElem?_cons_zero, tupOf, lstOf, gdOf, ex_eq, ex_eq', ex2_eq, ex2_eq', Bfn.f, Mth.f, compT, tgB, setAll, wipeD, wYes, List.map_cons, List.map_nil, List.set_cons_succ, List.set_cons_zero, List.length_cons, List.length_nil, Bop.f, Cop.f, Iop.f, fI2, fS2, fIx, fNeg, true_and, and_true, if_true, bodyEnds, R.fz_v, R.fz_tl, atI_0, atI_1, atI_2, atI_3, Option.some.injEq, DO.lst.injEq, decide_eq_true_eq, gup_same, gup_gup, or_false, ixN_s0, ixN_s1, ixN_s2, List.length_set, List.length_map, szl, Nat.reduceAdd, Nat.zero_add, Nat.reduceLeDiff, Nat.zero_le, Int.reduceLE, exists_eq', false_or, fAddT, fAddL, fSl, rolOf, Bool.not_true, Bool.not_false, Bool.false_eq_true, if_false, Bool.false_xor, Bool.xor_true, beq_self_eq_true, isiB_bb, isiB_ll, decide_true, isiB_tt, fIsN, isNon, wTry, wCallv, wRaise, setO, gonO, tryEnds, wMk, wMkAt, wAt, wRaiseAt, isKd, Mth.kd, eq_self, wDis, wDnK, wDnT, wDput, wPar, wRngD, wFld, wMeth, wNew, wSfld, wCh3, wPar3, wRevL, wDputM, wText, fInT, wIng, wSfld2, wDead])
local macro_rules | `(tactic| walk_at "stp") => `(tactic| first | (rw [wHid_eq]; conv in (wSs _) => arg 1; whnf) | (conv in (wSs _) => arg 1; whnf))
local macro_rules | `(tactic| walk_at "wx") => `(tactic| simp only [wSs, wS, wE, wL, wO, wSq, wRet, wRetN, wAsg, wIf, wDrop, wFor, wPut, wNx, wArgs, wCons, wNil, wCall, wComp, wI, wB, wSeqT, wSeqL, wRng1, wRng2, wEnumL, wEnumT, wVar, wC, wBin, wUn, wNot, wAnd, wOr, wIte, wTest, wTrk, wSlc, wNoPart, wPart, fMt, List.getElem?_cons_succ, List.getElem?_cons_zero, tupOf, lstOf, gdOf, ex_eq, ex_eq', ex2_eq, ex2_eq', Bfn.f, Mth.f, compT, tgB, setAll, wipeD, wYes, List.map_cons, List.map_nil, List.set_cons_succ, List.set_cons_zero, List.length_cons, List.length_nil, Bop.f, Cop.f, Iop.f, fI2, fS2, fIx, fNeg, true_and, and_true, if_true, bodyEnds, R.fz_v, R.fz_tl, atI_0, atI_1, atI_2, atI_3, Option.some.injEq, DO.lst.injEq, decide_eq_true_eq, gup_same, gup_gup, or_false, ixN_s0, ixN_s1, ixN_s2, List.length_set, List.length_map, szl, Nat.reduceAdd, Nat.zero_add, Nat.reduceLeDiff, Nat.zero_le, Int.reduceLE, exists_eq', false_or, fAddT, fAddL, fSl, rolOf, Bool.not_true, Bool.not_false, Bool.false_eq_true, if_false, Bool.false_xor, Bool.xor_true, beq_self_eq_true, isiB_bb, isiB_ll, decide_true, isiB_tt, fIsN, isNon, wTry, wCallv, wRaise, setO, gonO, tryEnds, wMk, wMkAt, wAt, wRaiseAt, isKd, Mth.kd, eq_self, wDis, wDnK, wDnT, wDput, wPar, wRngD, wFld, wMeth, wNew, wSfld, wCh3, wPar3, wRevL, wDputM, wText, fInT, wIng, wSfld2, wDead, eIn_tI, eIn_lI, eEq_tI, eEq_lI, eEq_tl, eEq_tl', eEq_bl, eEq_tN, eEq_lN, fIsE, Ufn.f, fSSet, fLSet, if_true, if_false, Bool.true_xor, Bool.xor_false, seqOf, fIxA, fSlA, fAddA, fInA, wSeqA, wEnumA, isKd, Mth.kd, fB2, okD_int, okD_bl, okDs_intsN, inD_ints, fRepL, fAddS, fIxS, eEq_int, wCh, fLRng, fRevT, fRow2, fTRng, fLSetT])
/-- a claim's words -/
def claimW (c : List Int) : List Str := if c = [] then [Str.ofString "none"] else c.map strI
def claimS (c : List Int) : Str := Txt.join spS (claimW c)
def slS : Str := Str.ofString " / "
/-- a row's words -/
def rowW : D → List Str
  | .tup (.str w :: ds) => w :: ds.map fun d => match d with
    | .int i => strI i
    | _ => w
  | _ => []
def rowsS (rows : List D) : Str := Txt.join slS (rows.map fun r => Txt.join spS (rowW r))

/-- a row that can be written -/
def RowN (d : D) : Prop := (∃ k : Int, 0 ≤ k ∧ k < 1000 ∧ d = bookD k) ∨ ∃ a b k : Int, 0 ≤ a ∧ a < 1000 ∧ 0 ≤ b ∧ b < 1000 ∧ 0 ≤ k ∧ k < 1000 ∧ d = wayD a b k
theorem strI_len : ∀ n : Fin 17, (strI ((n.val : Int) - 8)).length ≤ 2 := by decide +kernel
theorem strI_len8 {i : Int} (h : i.natAbs ≤ 8) : (strI i).length ≤ 2 := by
  have := strI_len ⟨(i + 8).toNat, by omega⟩
  rwa [show (((i + 8).toNat : Nat) : Int) - 8 = i by omega] at this
theorem strI_lenN {i : Int} (h0 : 0 ≤ i) (h : i < 1000) : (strI i).length ≤ 3 := by
  have := (strI_ok ⟨i.toNat, by omega⟩).2.2.1
  rw [show ((i.toNat : Nat) : Int) = i by omega] at this
  show (strI i).cps.size ≤ 3
  rw [← Array.length_toList]
  exact this
theorem log_ok {i : Int} (h : i.natAbs < 1920) : i.natAbs.log2 < 1920 := Nat.lt_of_le_of_lt (Nat.log2_le_self _) h
/-- a comprehension over things as they are -/
theorem compW_dd {gd : GH → Prop} {st : D → GH → (Option R → GH → Prop) → Prop} {Q : List D → GH → Prop} (f : D → D) {g : GH} {xs : List D} (hg : gd g)
    (h : ∀ x ∈ xs, ∀ P : Option R → GH → Prop, P (some (.v (f x))) g → st x g P) (hz : xs.length ≤ sizeLine) (q : Q (xs.map f) g) : compW gd st xs [] g Q := by
  have := compW_m (gd := gd) (st := st) (Q := Q) id f hg h hz q
  rwa [List.map_id] at this
def partS : D → Str
  | .int i => strI i
  | .str s => s
  | _ => Str.ofString ""
theorem join_len {sep : Str} {b : Nat} {ls : List Str} (h : ∀ x ∈ ls, x.length ≤ b) : (ls.map (·.length)).sum + ls.length * sep.length ≤ ls.length * (b + sep.length) := by
  induction ls with
  | nil => simp
  | cons x r ih =>
    have h1 := ih fun y hy => h y (List.mem_cons_of_mem _ hy)
    have h2 := h x (List.mem_cons_self ..)
    simp only [List.map_cons, List.sum_cons, List.length_cons, Nat.succ_mul] at h1 ⊢
    omega
theorem joined_len {sep : Str} {b : Nat} {ls : List Str} (h : ∀ x ∈ ls, x.length ≤ b) : (Txt.join sep ls).length ≤ ls.length * (b + sep.length) := by
  rw [TL.join_eq]
  exact Nat.le_trans (StrLaws.join_length_le sep ls) (join_len h)
theorem spS_len : spS.length = 1 := by decide +kernel
theorem slS_len : slS.length = 3 := by decide +kernel
theorem noneS_len : (Str.ofString "none").length = 4 := by decide +kernel
theorem claimW_len {c : List Int} (h : ∀ z ∈ c, z.natAbs ≤ 8) : ∀ w ∈ claimW c, w.length ≤ 4 := by
  unfold claimW
  split
  · intro w hw
    rw [List.mem_singleton.mp hw, noneS_len]; omega
  · intro w hw
    obtain ⟨z, hz, rfl⟩ := List.mem_map.mp hw
    exact Nat.le_trans (strI_len8 (h z hz)) (by omega)
end G3

/-! Q5: what is written reads back -/
namespace G3
open PySem L2
local macro_rules | `(tactic| walk_at "wp") => `(tactic| simp only [wSs, wS, wE, wL, wO, wSq, wRet, wRetN, wAsg, wIf, wDrop, wFor, wPut, wNx, wArgs, wCons, wNil, wCall, wComp, wI, wB, wSeqT, wSeqL, wRng1, wRng2, wEnumL, wEnumT, wVar, wC, wBin, wUn, wNot, wAnd, wOr, wIte, wTest, wTrk, wSlc, wNoPart, wPart, fMt, List.getElem?_cons_succ, List.getElem?_cons_zero, tupOf, lstOf, gdOf, ex_eq, ex_eq', ex2_eq, ex2_eq', Bfn.f, Mth.f, compT, tgB, setAll, wipeD, wYes, List.map_cons, List.map_nil, List.set_cons_succ, List.set_cons_zero, List.length_cons, List.length_nil, Bop.f, Cop.f, Iop.f, fI2, fS2, fIx, fNeg, true_and, and_true, if_true, bodyEnds, R.fz_v, R.fz_tl, atI_0, atI_1, atI_2, atI_3, Option.some.injEq, DO.lst.injEq, decide_eq_true_eq, gup_same, gup_gup, or_false, ixN_s0, ixN_s1, ixN_s2, List.length_set, List.length_map, szl, Nat.reduceAdd, Nat.zero_add, Nat.reduceLeDiff, Nat.zero_le, Int.reduceLE, exists_eq', false_or, fAddT, fAddL, fSl, rolOf, Bool.not_true, Bool.not_false, Bool.false_eq_true, if_false, Bool.false_xor, Bool.xor_true, beq_self_eq_true, isiB_bb, isiB_ll, decide_true, isiB_tt, fIsN, isNon, wTry, wCallv, wRaise, setO, gonO, tryEnds, wMk, wMkAt, wAt, wRaiseAt, isKd, Mth.kd, eq_self, wDis, wDnK, wDnT, wDput, wPar, wRngD, wFld, wMeth, wNew, wSfld, wCh3, wPar3, wRevL, wDputM, wText, fInT, wIng, wSfld2, wDead])
local macro_rules | `(tactic| walk_at "stp") => `(tactic| first | (rw [wHid_eq]; conv in (wSs _) => arg 1; whnf) | (conv in (wSs _) => arg 1; whnf))
local macro_rules | `(tactic| walk_at "wx") => `(tactic| simp only [wSs, wS, wE, wL, wO, wSq, wRet, wRetN, wAsg, wIf, wDrop, wFor, wPut, wNx, wArgs, wCons, wNil, wCall, wComp, wI, wB, wSeqT, wSeqL, wRng1, wRng2, wEnumL, wEnumT, wVar, wC, wBin, wUn, wNot, wAnd, wOr, wIte, wTest, wTrk, wSlc, wNoPart, wPart, fMt, List.getElem?_cons_succ, List.getElem?_cons_zero, tupOf, lstOf, gdOf, ex_eq, ex_eq', ex2_eq, ex2_eq', Bfn.f, Mth.f, compT, tgB, setAll, wipeD, wYes, List.map_cons, List.map_nil, List.set_cons_succ, List.set_cons_zero, List.length_cons, List.length_nil, Bop.f, Cop.f, Iop.f, fI2, fS2, fIx, fNeg, true_and, and_true, if_true, bodyEnds, R.fz_v, R.fz_tl, atI_0, atI_1, atI_2, atI_3, Option.some.injEq, DO.lst.injEq, decide_eq_true_eq, gup_same, gup_gup, or_false, ixN_s0, ixN_s1, ixN_s2, List.length_set, List.length_map, szl, Nat.reduceAdd, Nat.zero_add, Nat.reduceLeDiff, Nat.zero_le, Int.reduceLE, exists_eq', false_or, fAddT, fAddL, fSl, rolOf, Bool.not_true, Bool.not_false, Bool.false_eq_true, if_false, Bool.false_xor, Bool.xor_true, beq_self_eq_true, isiB_bb, isiB_ll, decide_true, isiB_tt, fIsN, isNon, wTry, wCallv, wRaise, setO, gonO, tryEnds, wMk, wMkAt, wAt, wRaiseAt, isKd, Mth.kd, eq_self, wDis, wDnK, wDnT, wDput, wPar, wRngD, wFld, wMeth, wNew, wSfld, wCh3, wPar3, wRevL, wDputM, wText, fInT, wIng, wSfld2, wDead, eIn_tI, eIn_lI, eEq_tI, eEq_lI, eEq_tl, eEq_tl', eEq_bl, eEq_tN, eEq_lN, fIsE, Ufn.f, fSSet, fLSet, if_true, if_false, Bool.true_xor, Bool.xor_false, seqOf, fIxA, fSlA, fAddA, fInA, wSeqA, wEnumA, isKd, Mth.kd, fB2, okD_int, okD_bl, okDs_intsN, inD_ints, fRepL, fAddS, fIxS, eEq_int, wCh, fLRng, fRevT, fRow2, fTRng, fLSetT])
def slW : Str := Str.ofString "/"
/-! ### books -/
/-! ### ladders -/
/-- a row that can stand behind so many -/
def RowW (many : Nat) (d : D) : Prop := (∃ k : Int, 0 ≤ k ∧ k ≤ 15 ∧ d = bookD k) ∨ ∃ a b k : Int, 0 ≤ a ∧ a < many ∧ 0 ≤ b ∧ b < many ∧ 1 ≤ k ∧ k ≤ 8 ∧ d = wayD a b k
theorem RowW.n {many : Nat} {d : D} (h : RowW many d) (hm : many ≤ 1000) : RowN d := by
  rcases h with ⟨k, h0, h1, rfl⟩ | ⟨a, b, k, a0, a1, b0, b1, k0, k1, rfl⟩
  · exact .inl ⟨k, h0, by omega, rfl⟩
  · exact .inr ⟨a, b, k, a0, by omega, b0, by omega, by omega, by omega, rfl⟩
def bkW : Str := Str.ofString "book"
def ctW : Str := Str.ofString "cut"
theorem numW : ∀ n : Fin 1000, 32 ∉ TL.tl (strI (n.val : Int)) := by
  intro n hm
  have h4 := (strI_ok n).2.2.2.1
  have := List.all_eq_true.mp h4 32 hm
  exact absurd (of_decide_eq_true this) (by decide)
theorem numW' {i : Int} (h0 : 0 ≤ i) (h : i < 1000) : 32 ∉ TL.tl (strI i) := by
  have := numW ⟨i.toNat, by omega⟩
  rwa [show ((i.toNat : Nat) : Int) = i by omega] at this
theorem rowW_words {d : D} (h : RowN d) : ∀ w ∈ rowW d, 32 ∉ TL.tl w ∧ w.length ≤ 4 := by
  rcases h with ⟨k, h0, h1, rfl⟩ | ⟨a, b, k, a0, a1, b0, b1, k0, k1, rfl⟩
  · intro w hw
    rcases List.mem_cons.mp (show w ∈ [bkW, strI k] from hw) with rfl | hw
    · decide +kernel
    · rw [List.mem_singleton.mp hw]
      exact ⟨numW' h0 h1, Nat.le_trans (strI_lenN h0 h1) (by omega)⟩
  · intro w hw
    have hw : w ∈ [ctW, strI a, strI b, strI k] := hw
    simp only [List.mem_cons, List.not_mem_nil, or_false] at hw
    rcases hw with rfl | rfl | rfl | rfl
    · decide +kernel
    · exact ⟨numW' a0 a1, Nat.le_trans (strI_lenN a0 a1) (by omega)⟩
    · exact ⟨numW' b0 b1, Nat.le_trans (strI_lenN b0 b1) (by omega)⟩
    · exact ⟨numW' k0 k1, Nat.le_trans (strI_lenN k0 k1) (by omega)⟩
theorem rowS_len {d : D} (h : RowN d) : (Txt.join spS (rowW d)).length ≤ 20 := by
  have hw := joined_len (sep := spS) (b := 4) fun w hw => (rowW_words h w hw).2
  have h4 : (rowW d).length ≤ 4 := by
    rcases h with ⟨k, h0, h1, rfl⟩ | ⟨a, b, k, a0, a1, b0, b1, k0, k1, rfl⟩
    · show 2 ≤ 4; omega
    · exact Nat.le_refl 4
  rw [spS_len] at hw
  omega
end G3

/-! E1: pens, claims, books of the later laws -/
namespace G3
open PySem L2
local macro_rules | `(tactic| walk_at "wp") => `(tactic| simp only [wSs, wS, wE, wL, wO, wSq, wRet, wRetN, wAsg, wIf, wDrop, wFor, wPut, wNx, wArgs, wCons, wNil, wCall, wComp, wI, wB, wSeqT, wSeqL, wRng1, wRng2, wEnumL, wEnumT, wVar, wC, wBin, wUn, wNot, wAnd, wOr, wIte, wTest, wTrk, wSlc, wNoPart, wPart, fMt, List.getElem?_cons_succ, List.getElem?_cons_zero, tupOf, lstOf, gdOf, ex_eq, ex_eq', ex2_eq, ex2_eq', Bfn.f, Mth.f, compT, tgB, setAll, wipeD, wYes, List.map_cons, List.map_nil, List.set_cons_succ, List.set_cons_zero, List.length_cons, List.length_nil, Bop.f, Cop.f, Iop.f, fI2, fS2, fIx, fNeg, true_and, and_true, if_true, bodyEnds, R.fz_v, R.fz_tl, atI_0, atI_1, atI_2, atI_3, Option.some.injEq, DO.lst.injEq, decide_eq_true_eq, gup_same, gup_gup, or_false, ixN_s0, ixN_s1, ixN_s2, List.length_set, List.length_map, szl, Nat.reduceAdd, Nat.zero_add, Nat.reduceLeDiff, Nat.zero_le, Int.reduceLE, exists_eq', false_or, fAddT, fAddL, fSl, rolOf, Bool.not_true, Bool.not_false, Bool.false_eq_true, if_false, Bool.false_xor, Bool.xor_true, beq_self_eq_true, isiB_bb, isiB_ll, decide_true, isiB_tt, fIsN, isNon, wTry, wCallv, wRaise, setO, gonO, tryEnds, wMk, wMkAt, wAt, wRaiseAt, isKd, Mth.kd, eq_self, wDis, wDnK, wDnT, wDput, wPar, wRngD, wFld, wMeth, wNew, wSfld, wCh3, wPar3, wRevL, wDputM, wText, fInT, wIng, wSfld2, wDead])
local macro_rules | `(tactic| walk_at "stp") => `(tactic| first | (rw [wHid_eq]; conv in (wSs _) => arg 1; whnf) | (conv in (wSs _) => arg 1; whnf))
local macro_rules | `(tactic| walk_at "wx") => `(tactic| simp only [wSs, wS, wE, wL, wO, wSq, wRet, wRetN, wAsg, wIf, wDrop, wFor, wPut, wNx, wArgs, wCons, wNil, wCall, wComp, wI, wB, wSeqT, wSeqL, wRng1, wRng2, wEnumL, wEnumT, wVar, wC, wBin, wUn, wNot, wAnd, wOr, wIte, wTest, wTrk, wSlc, wNoPart, wPart, fMt, List.getElem?_cons_succ, List.getElem?_cons_zero, tupOf, lstOf, gdOf, ex_eq, ex_eq', ex2_eq, ex2_eq', Bfn.f, Mth.f, compT, tgB, setAll, wipeD, wYes, List.map_cons, List.map_nil, List.set_cons_succ, List.set_cons_zero, List.length_cons, List.length_nil, Bop.f, Cop.f, Iop.f, fI2, fS2, fIx, fNeg, true_and, and_true, if_true, bodyEnds, R.fz_v, R.fz_tl, atI_0, atI_1, atI_2, atI_3, Option.some.injEq, DO.lst.injEq, decide_eq_true_eq, gup_same, gup_gup, or_false, ixN_s0, ixN_s1, ixN_s2, List.length_set, List.length_map, szl, Nat.reduceAdd, Nat.zero_add, Nat.reduceLeDiff, Nat.zero_le, Int.reduceLE, exists_eq', false_or, fAddT, fAddL, fSl, rolOf, Bool.not_true, Bool.not_false, Bool.false_eq_true, if_false, Bool.false_xor, Bool.xor_true, beq_self_eq_true, isiB_bb, isiB_ll, decide_true, isiB_tt, fIsN, isNon, wTry, wCallv, wRaise, setO, gonO, tryEnds, wMk, wMkAt, wAt, wRaiseAt, isKd, Mth.kd, eq_self, wDis, wDnK, wDnT, wDput, wPar, wRngD, wFld, wMeth, wNew, wSfld, wCh3, wPar3, wRevL, wDputM, wText, fInT, wIng, wSfld2, wDead, eIn_tI, eIn_lI, eEq_tI, eEq_lI, eEq_tl, eEq_tl', eEq_bl, eEq_tN, eEq_lN, fIsE, Ufn.f, fSSet, fLSet, if_true, if_false, Bool.true_xor, Bool.xor_false, seqOf, fIxA, fSlA, fAddA, fInA, wSeqA, wEnumA, isKd, Mth.kd, fB2, okD_int, okD_bl, okDs_intsN, inD_ints, fRepL, fAddS, fIxS, eEq_int, wCh, fLRng, fRevT, fRow2, fTRng, fLSetT])
def n_law_e_pen : List Str := ["script"]
def b_law_e_pen : Sl := .cons (.ret (.lst (.cons (.blf .list (.cons (.slc .l (.var 0) (.no) (.so (.cst (.int 60)))) (.nil))) (.cons (.cst (.int 0)) (.cons (.cst (.int 0)) (.nil)))))) (.nil)
def sp_law_e_pen : GSp := fun ds g Q _ => ∃ ns : List Int, ds = [.rl (ns.map .int)] ∧ ns.length ≤ 63 ∧ ∀ cells : List Int, cells.length ≤ 63 → Q (.tl [.lst (cells.map .int), .int 0, .int 0]) g
theorem w_law_e_pen : ∀ ds g Q W, sp_law_e_pen ds g Q W → wSs b_law_e_pen (bodyEnds g Q W) (startD 1 ds) g := by
  rintro ds g Q W ⟨ns, rfl, hl, h⟩
  change wSs _ _ [some _] g
  walk_at "stp"; walk_at "wx"
  rw [cutD_map]
  refine .same (h _ ?_)
  unfold cutD
  rw [List.length_take, List.length_drop]
  omega
/-- a pen: its cells, the next one's number (below n), what is left of a cell -/
def PenO (o : DO) (n : Int) : Prop := ∃ (cells : List Int) (at_ rest : Int), o = .lst [.lst (cells.map .int), .int at_, .int rest] ∧ cells.length ≤ 63 ∧ 0 ≤ at_ ∧ at_ ≤ n ∧ 0 ≤ rest
theorem PenO.up {o : DO} {n m : Int} (h : PenO o n) (hm : n ≤ m) : PenO o m := by
  obtain ⟨c, a, r, e, h0, h1, h2, h3⟩ := h
  exact ⟨c, a, r, e, h0, h1, by omega, h3⟩
theorem atI_in {α : Type} (f : α → D) (P : α → Prop) {xs : List α} {i : Int} (h0 : 0 ≤ i) (h1 : i < xs.length) (hP : ∀ x ∈ xs, P x) : ∃ x, P x ∧ L2.atI (xs.map f) i = some (f x) := by
  obtain ⟨k, rfl⟩ : ∃ k : Nat, i = k := ⟨i.toNat, by omega⟩
  have hk : k < xs.length := by omega
  exact ⟨xs[k], hP _ (List.getElem_mem hk), by rw [atI_nat', List.getElem?_map, List.getElem?_eq_getElem hk]; rfl⟩
/-- the primes -/
def BigP (x : Int) : Prop := 2147483399 ≤ x ∧ x ≤ 2147483647
def n_law_e_fresh : List Str := ["pen", "at", "cell", "one", "two", "mixed", "other"]
def b_law_e_fresh_14 : Sl := .cons (.ret (.bin .addI (.bin .mulI (.bin .addI (.var 5) (.cst (.int 3))) (.var 4)) (.var 6))) (.nil)
def b_law_e_fresh_13 : Sl := .cons (.asg (.nm 6) (.bin .modI (.bin .powI (.bin .addI (.bin .addI (.var 5) (.bin .modI (.var 2) (.var 4))) (.bin .mulI (.var 1) (.var 1))) (.cst (.int 3))) (.var 4))) (.part b_law_e_fresh_14)
def b_law_e_fresh_12 : Sl := .cons (.asg (.nm 5) (.bin .modI (.bin .powI (.bin .addI (.bin .addI (.bin .modI (.var 2) (.var 3)) (.bin .mulI (.cst (.int 31)) (.var 1))) (.cst (.int 5))) (.cst (.int 5))) (.var 3))) (.part b_law_e_fresh_13)
def b_law_e_fresh_11 : Sl := .cons (.asg (.nm 4) (.idx .l (.lst (.cons (.cst (.int 2147483497)) (.cons (.cst (.int 2147483489)) (.cons (.cst (.int 2147483477)) (.cons (.cst (.int 2147483423)) (.cons (.cst (.int 2147483399)) (.nil))))))) (.bin .modI (.var 1) (.cst (.int 5))))) (.part b_law_e_fresh_12)
def b_law_e_fresh_10 : Sl := .cons (.asg (.nm 3) (.idx .l (.lst (.cons (.cst (.int 2147483647)) (.cons (.cst (.int 2147483629)) (.cons (.cst (.int 2147483587)) (.cons (.cst (.int 2147483579)) (.cons (.cst (.int 2147483563)) (.cons (.cst (.int 2147483549)) (.cons (.cst (.int 2147483543)) (.nil))))))))) (.bin .modI (.var 1) (.cst (.int 7))))) (.part b_law_e_fresh_11)
def b_law_e_fresh_8 : Sl := .cons (.ifs (.cmp .geI (.var 2) (.bin .powI (.cst (.int 10)) (.cst (.int 18)))) (.cons (.ret (.var 2)) (.nil)) (.nil)) (.part b_law_e_fresh_10)
def b_law_e_fresh_6 : Sl := .cons (.ifs (.cmp .ltI (.var 1) (.blf .len (.cons (.idx .l (.var 0) (.cst (.int 0))) (.nil)))) (.cons (.asg (.nm 2) (.idx .l (.idx .l (.var 0) (.cst (.int 0))) (.var 1))) (.nil)) (.nil)) (.part b_law_e_fresh_8)
def b_law_e_fresh_5 : Sl := .cons (.asg (.nm 2) (.bin .fdivI (.idx .l (.idx .l (.var 0) (.cst (.int 0))) (.bin .modI (.bin .mulI (.var 1) (.cst (.int 7))) (.blf .len (.cons (.idx .l (.var 0) (.cst (.int 0))) (.nil))))) (.bin .addI (.cst (.int 1)) (.bin .fdivI (.var 1) (.blf .len (.cons (.idx .l (.var 0) (.cst (.int 0))) (.nil))))))) (.nil)
def b_law_e_fresh : Sl := .cons (.asg (.nm 1) (.idx .l (.var 0) (.cst (.int 1)))) (.cons (.put (.var 0) (.cst (.int 1)) (.bin .addI (.var 1) (.cst (.int 1)))) (.cons (.asg (.nm 2) (.cst (.int 0))) (.cons (.ifs (.cmp .neD (.idx .l (.var 0) (.cst (.int 0))) (.lst (.nil))) (.part b_law_e_fresh_5) (.nil)) (.part b_law_e_fresh_6))))
def sp_law_e_fresh : GSp := fun ds g Q _ => ∃ (p : Addr) (o : DO) (n : Int), ds = [.ref p] ∧ g p = some o ∧ PenO o n ∧ n ≤ 2 ^ 28 ∧ ∀ (c : Int) (o' : DO), 0 ≤ c → PenO o' (n + 1) → Q (.v (.int c)) (gup g p o')
theorem w_law_e_fresh : ∀ ds g Q W, sp_law_e_fresh ds g Q W → wSs b_law_e_fresh (bodyEnds g Q W) (startD 7 ds) g := by
  rintro ds g Q W ⟨p, o, n, rfl, hp, ⟨cells, at_, rest, rfl, hc60, ha0, han, hr⟩, hn, h⟩
  change wSs _ _ [some _, none, none, none, none, none, none] g
  have fin : ∀ (c : Int), 0 ≤ c → RetOk g Q (.v (.int c)) (gup g p (.lst [.lst (cells.map .int), .int (at_ + 1), .int rest])) := fun c hc =>
    .same (h c _ hc ⟨cells, at_ + 1, rest, rfl, hc60, by omega, by omega, hr⟩)
  have s8 : ∀ (c : Int), wHid (wSs b_law_e_fresh_8) { nx := fun x g' => RetOk g Q (R.v D.non) g', rt := RetOk g Q, ct := fun x x_1 => False, ex := XRet W } [some (.ref p), some (.int at_), some (.int c), none, none, none, none] (gup g p (.lst [.lst (cells.map .int), .int (at_ + 1), .int rest])) := by
    intro c
    walk_at "stp"; walk_at "wx"
    refine ⟨⟨by decide, by decide⟩, ?_⟩
    split
    · rename_i hc
      have : ((10 : Int) ^ Int.toNat 18) = 1000000000000000000 := by decide
      exact fin c (by omega)
    · walk_at "stp"; walk_at "wx"
      refine ⟨by decide, ?_⟩
      obtain ⟨one, ho, e1⟩ := atI_in D.int BigP (xs := [2147483647, 2147483629, 2147483587, 2147483579, 2147483563, 2147483549, 2147483543]) (i := at_ % 7) (Int.emod_nonneg _ (by decide)) (Int.emod_lt_of_pos _ (by decide)) (by intro x hx; unfold BigP; simp only [List.mem_cons, List.not_mem_nil, or_false] at hx; omega)
      refine ⟨_, e1, ?_⟩
      walk_at "stp"; walk_at "wx"
      refine ⟨by decide, ?_⟩
      obtain ⟨two, ht, e2⟩ := atI_in D.int BigP (xs := [2147483497, 2147483489, 2147483477, 2147483423, 2147483399]) (i := at_ % 5) (Int.emod_nonneg _ (by decide)) (Int.emod_lt_of_pos _ (by decide)) (by intro x hx; unfold BigP; simp only [List.mem_cons, List.not_mem_nil, or_false] at hx; omega)
      refine ⟨_, e2, ?_⟩
      unfold BigP at ho ht
      have m : ∀ (x n : Int), 0 < n → 0 ≤ x % n ∧ x % n < n := fun x n hn => ⟨Int.emod_nonneg x (by omega), Int.emod_lt_of_pos x hn⟩
      have a1 := m c one (by omega)
      have a2 := m c two (by omega)
      walk_at "stp"; walk_at "wx"
      have hm : 0 ≤ (c % one + 31 * at_ + 5) ^ Int.toNat 5 % one ∧ (c % one + 31 * at_ + 5) ^ Int.toNat 5 % one < one := m _ one (by omega)
      refine ⟨by omega, .inl ⟨by omega, by omega⟩, ⟨by omega, by omega, by omega⟩, by omega, ?_⟩
      generalize (c % one + 31 * at_ + 5) ^ Int.toNat 5 % one = mixed at *
      have hsq : 0 ≤ at_ * at_ ∧ at_ * at_ ≤ 268435456 * 268435456 := ⟨Int.mul_nonneg ha0 ha0, Int.mul_le_mul (by omega) (by omega) ha0 (by omega)⟩
      walk_at "stp"; walk_at "wx"
      have ho2 : 0 ≤ (mixed + c % two + at_ * at_) ^ Int.toNat 3 % two := (m _ two (by omega)).1
      refine ⟨by omega, .inl ⟨by omega, by omega⟩, ⟨by omega, by omega, by omega⟩, by omega, ?_⟩
      generalize (mixed + c % two + at_ * at_) ^ Int.toNat 3 % two = other at *
      walk_at "stp"; walk_at "wx"
      refine ⟨.inl ⟨by omega, by omega⟩, fin _ ?_⟩
      have := Int.mul_nonneg (show 0 ≤ mixed + 3 by omega) (show 0 ≤ two by omega)
      omega
  have s6 : ∀ (c : Int), wHid (wSs b_law_e_fresh_6) { nx := fun x g' => RetOk g Q (R.v D.non) g', rt := RetOk g Q, ct := fun x x_1 => False, ex := XRet W } [some (.ref p), some (.int at_), some (.int c), none, none, none, none] (gup g p (.lst [.lst (cells.map .int), .int (at_ + 1), .int rest])) := by
    intro c
    walk_at "stp"; walk_at "wx"
    split
    · rename_i hl
      obtain ⟨x, -, -, e⟩ := atI_map D.int ha0 hl
      exact ⟨_, e, s8 x⟩
    · exact s8 c
  walk_at "stp"; simp (maxSteps := 2000000) only [hp, exists_eq_left', wSs, wS, wE, wL, wO, wSq, wRet, wRetN, wAsg, wIf, wDrop, wFor, wPut, wNx, wArgs, wCons, wNil, wCall, wComp, wI, wB, wSeqT, wSeqL, wRng1, wRng2, wEnumL, wEnumT, wVar, wC, wBin, wUn, wNot, wAnd, wOr, wIte, wTest, wTrk, wSlc, wNoPart, wPart, fMt, List.getElem?_cons_succ, List.getElem?_cons_zero, tupOf, lstOf, gdOf, ex_eq, ex_eq', ex2_eq, ex2_eq', Bfn.f, Mth.f, compT, tgB, setAll, wipeD, wYes, List.map_cons, List.map_nil, List.set_cons_succ, List.set_cons_zero, List.length_cons, List.length_nil, Bop.f, Cop.f, Iop.f, fI2, fS2, fIx, fNeg, true_and, and_true, if_true, bodyEnds, R.fz_v, R.fz_tl, atI_0, atI_1, atI_2, atI_3, Option.some.injEq, DO.lst.injEq, decide_eq_true_eq, gup_same, gup_gup, or_false, ixN_s0, ixN_s1, ixN_s2, List.length_set, List.length_map, szl, Nat.reduceAdd, Nat.zero_add, Nat.reduceLeDiff, Nat.zero_le, Int.reduceLE, exists_eq', false_or, fAddT, fAddL, fSl, rolOf, Bool.not_true, Bool.not_false, Bool.false_eq_true, if_false, Bool.false_xor, Bool.xor_true, beq_self_eq_true, isiB_bb, isiB_ll, decide_true, isiB_tt, fIsN, isNon, wTry, wCallv, wRaise, setO, gonO, tryEnds, wMk, wMkAt, wAt, wRaiseAt, isKd, Mth.kd, eq_self, wDis, wDnK, wDnT, wDput, wPar, wRngD, wFld, wMeth, wNew, wSfld, wCh3, wPar3, wRevL, wDputM, wText, fInT, wIng, wSfld2, wDead, eIn_tI, eIn_lI, eEq_tI, eEq_lI, eEq_tl, eEq_tl', eEq_bl, eEq_tN, eEq_lN, fIsE, Ufn.f, fSSet, fLSet, if_true, if_false, Bool.true_xor, Bool.xor_false, seqOf, fIxA, fSlA, fAddA, fInA, wSeqA, wEnumA, isKd, Mth.kd, fB2, okD_int, okD_bl, okDs_intsN, inD_ints, fRepL, fAddS, fIxS, eEq_int, wCh, fLRng, fRevT, fRow2, fTRng, fLSetT]
  split
  · rename_i hc
    have hl : 0 < (cells.length : Int) := by
      cases cells with
      | nil => simp at hc
      | cons a b => simp only [List.length_cons]; omega
    walk_at "stp"; walk_at "wx"
    have hd : at_ / (cells.length : Int) ≤ at_ := Int.ediv_le_self _ ha0
    have hd0 : 0 ≤ at_ / (cells.length : Int) := Int.ediv_nonneg ha0 (by omega)
    obtain ⟨x, -, -, e⟩ := atI_map D.int (xs := cells) (Int.emod_nonneg (at_ * 7) (show (cells.length : Int) ≠ 0 by omega)) (Int.emod_lt_of_pos (at_ * 7) hl)
    refine ⟨.inr ⟨by omega, by omega⟩, hl, _, e, ⟨hl, by omega⟩, ⟨by omega, by omega⟩, s6 _⟩
  · exact s6 0
def n_law_e_take : List Str := ["pen", "many", "found"]
def b_law_e_take_3 : Sl := .cons (.asg (.nm 2) (.bin .modI (.idx .l (.var 0) (.cst (.int 2))) (.var 1))) (.cons (.put (.var 0) (.cst (.int 2)) (.bin .fdivI (.idx .l (.var 0) (.cst (.int 2))) (.var 1))) (.cons (.ret (.var 2)) (.nil)))
def b_law_e_take : Sl := .cons (.ifs (.cmp .ltI (.idx .l (.var 0) (.cst (.int 2))) (.var 1)) (.cons (.put (.var 0) (.cst (.int 2)) (.call "_law_e_fresh" sp_law_e_fresh (.cons (.var 0) (.nil)))) (.nil)) (.nil)) (.part b_law_e_take_3)
def sp_law_e_take : GSp := fun ds g Q _ => ∃ (p : Addr) (o : DO) (n many : Int), ds = [.ref p, .int many] ∧ g p = some o ∧ PenO o n ∧ n ≤ 2 ^ 28 ∧ 1 ≤ many ∧ many < 1073741824 ∧
  ∀ (d : Int) (o' : DO), 0 ≤ d → d < many → PenO o' (n + 1) → Q (.v (.int d)) (gup g p o')
theorem w_law_e_take : ∀ ds g Q W, sp_law_e_take ds g Q W → wSs b_law_e_take (bodyEnds g Q W) (startD 3 ds) g := by
  rintro ds g Q W ⟨p, o, n, many, rfl, hp, ⟨cells, at_, rest, rfl, hc60, ha0, han, hr⟩, hn, hm1, hm2, h⟩
  change wSs _ _ [some _, some _, none] g
  have fin : ∀ (cells : List Int) (at' rest' : Int) (g' : GH), cells.length ≤ 63 → 0 ≤ at' → at' ≤ n + 1 → 0 ≤ rest' → g' = gup g p (.lst [.lst (cells.map .int), .int at', .int rest']) →
      wHid (wSs b_law_e_take_3) { nx := fun x g' => RetOk g Q (R.v D.non) g', rt := RetOk g Q, ct := fun x x_1 => False, ex := XRet W } [some (.ref p), some (.int many), none] g' := by
    rintro cells at' rest' g' h0 h1 h2 h3 rfl
    walk_at "stp"; walk_at "wx"
    refine ⟨by omega, ⟨by omega, by omega⟩, .same ?_⟩
    exact h _ _ (Int.emod_nonneg _ (by omega)) (Int.emod_lt_of_pos _ (by omega)) ⟨cells, at', rest' / many, rfl, h0, h1, h2, Int.ediv_nonneg h3 (by omega)⟩
  walk_at "stp"; simp (maxSteps := 2000000) only [hp, wSs, wS, wE, wL, wO, wSq, wRet, wRetN, wAsg, wIf, wDrop, wFor, wPut, wNx, wArgs, wCons, wNil, wCall, wComp, wI, wB, wSeqT, wSeqL, wRng1, wRng2, wEnumL, wEnumT, wVar, wC, wBin, wUn, wNot, wAnd, wOr, wIte, wTest, wTrk, wSlc, wNoPart, wPart, fMt, List.getElem?_cons_succ, List.getElem?_cons_zero, tupOf, lstOf, gdOf, ex_eq, ex_eq', ex2_eq, ex2_eq', Bfn.f, Mth.f, compT, tgB, setAll, wipeD, wYes, List.map_cons, List.map_nil, List.set_cons_succ, List.set_cons_zero, List.length_cons, List.length_nil, Bop.f, Cop.f, Iop.f, fI2, fS2, fIx, fNeg, true_and, and_true, if_true, bodyEnds, R.fz_v, R.fz_tl, atI_0, atI_1, atI_2, atI_3, Option.some.injEq, DO.lst.injEq, decide_eq_true_eq, gup_same, gup_gup, or_false, ixN_s0, ixN_s1, ixN_s2, List.length_set, List.length_map, szl, Nat.reduceAdd, Nat.zero_add, Nat.reduceLeDiff, Nat.zero_le, Int.reduceLE, exists_eq', false_or, fAddT, fAddL, fSl, rolOf, Bool.not_true, Bool.not_false, Bool.false_eq_true, if_false, Bool.false_xor, Bool.xor_true, beq_self_eq_true, isiB_bb, isiB_ll, decide_true, isiB_tt, fIsN, isNon, wTry, wCallv, wRaise, setO, gonO, tryEnds, wMk, wMkAt, wAt, wRaiseAt, isKd, Mth.kd, eq_self, wDis, wDnK, wDnT, wDput, wPar, wRngD, wFld, wMeth, wNew, wSfld, wCh3, wPar3, wRevL, wDputM, wText, fInT, wIng, wSfld2, wDead, eIn_tI, eIn_lI, eEq_tI, eEq_lI, eEq_tl, eEq_tl', eEq_bl, eEq_tN, eEq_lN, fIsE, Ufn.f, fSSet, fLSet, if_true, if_false, Bool.true_xor, Bool.xor_false, seqOf, fIxA, fSlA, fAddA, fInA, wSeqA, wEnumA, isKd, Mth.kd, fB2, okD_int, okD_bl, okDs_intsN, inD_ints, fRepL, fAddS, fIxS, eEq_int, wCh, fLRng, fRevT, fRow2, fTRng, fLSetT]
  split
  · refine ⟨p, _, n, rfl, hp, ⟨cells, at_, rest, rfl, hc60, ha0, han, hr⟩, hn, fun c o' hc hf => ?_⟩
    obtain ⟨cells', at', rest', rfl, h0, h1, h2, h3⟩ := hf
    walk_at "wx"
    exact fin cells' at' c _ h0 h1 h2 hc rfl
  · exact fin cells at_ rest _ hc60 ha0 (by omega) hr (gup_self hp).symm
end G3

/-! E2: what is forced; the laws' own looks -/
namespace G3
open PySem L2
local macro_rules | `(tactic| walk_at "wp") => `(tactic| simp only [wSs, wS, wE, wL, wO, wSq, wRet, wRetN, wAsg, wIf, wDrop, wFor, wPut, wNx, wArgs, wCons, wNil, wCall, wComp, wI, wB, wSeqT, wSeqL, wRng1, wRng2, wEnumL, wEnumT, wVar, wC, wBin, wUn, wNot, wAnd, wOr, wIte, wTest, wTrk, wSlc, wNoPart, wPart, fMt, List.getElem?_cons_succ, List.getElem?_cons_zero, tupOf, lstOf, gdOf, ex_eq, ex_eq', ex2_eq, ex2_eq', Bfn.f, Mth.f, compT, tgB, setAll, wipeD, wYes, List.map_cons, List.map_nil, List.set_cons_succ, List.set_cons_zero, List.length_cons, List.length_nil, Bop.f, Cop.f, Iop.f, fI2, fS2, fIx, fNeg, true_and, and_true, if_true, bodyEnds, R.fz_v, R.fz_tl, atI_0, atI_1, atI_2, atI_3, Option.some.injEq, DO.lst.injEq, decide_eq_true_eq, gup_same, gup_gup, or_false, ixN_s0, ixN_s1, ixN_s2, List.length_set, List.length_map, szl, Nat.reduceAdd, Nat.zero_add, Nat.reduceLeDiff, Nat.zero_le, Int.reduceLE, exists_eq', false_or, fAddT, fAddL, fSl, rolOf, Bool.not_true, Bool.not_false, Bool.false_eq_true, if_false, Bool.false_xor, Bool.xor_true, beq_self_eq_true, isiB_bb, isiB_ll, decide_true, isiB_tt, fIsN, isNon, wTry, wCallv, wRaise, setO, gonO, tryEnds, wMk, wMkAt, wAt, wRaiseAt, isKd, Mth.kd, eq_self, wDis, wDnK, wDnT, wDput, wPar, wRngD, wFld, wMeth, wNew, wSfld, wCh3, wPar3, wRevL, wDputM, wText, fInT, wIng, wSfld2, wDead])
local macro_rules | `(tactic| walk_at "stp") => `(tactic| first | (rw [wHid_eq]; conv in (wSs _) => arg 1; whnf) | (conv in (wSs _) => arg 1; whnf))
local macro_rules | `(tactic| walk_at "wx") => `(tactic| simp only [wSs, wS, wE, wL, wO, wSq, wRet, wRetN, wAsg, wIf, wDrop, wFor, wPut, wNx, wArgs, wCons, wNil, wCall, wComp, wI, wB, wSeqT, wSeqL, wRng1, wRng2, wEnumL, wEnumT, wVar, wC, wBin, wUn, wNot, wAnd, wOr, wIte, wTest, wTrk, wSlc, wNoPart, wPart, fMt, List.getElem?_cons_succ, List.getElem?_cons_zero, tupOf, lstOf, gdOf, ex_eq, ex_eq', ex2_eq, ex2_eq', Bfn.f, Mth.f, compT, tgB, setAll, wipeD, wYes, List.map_cons, List.map_nil, List.set_cons_succ, List.set_cons_zero, List.length_cons, List.length_nil, Bop.f, Cop.f, Iop.f, fI2, fS2, fIx, fNeg, true_and, and_true, if_true, bodyEnds, R.fz_v, R.fz_tl, atI_0, atI_1, atI_2, atI_3, Option.some.injEq, DO.lst.injEq, decide_eq_true_eq, gup_same, gup_gup, or_false, ixN_s0, ixN_s1, ixN_s2, List.length_set, List.length_map, szl, Nat.reduceAdd, Nat.zero_add, Nat.reduceLeDiff, Nat.zero_le, Int.reduceLE, exists_eq', false_or, fAddT, fAddL, fSl, rolOf, Bool.not_true, Bool.not_false, Bool.false_eq_true, if_false, Bool.false_xor, Bool.xor_true, beq_self_eq_true, isiB_bb, isiB_ll, decide_true, isiB_tt, fIsN, isNon, wTry, wCallv, wRaise, setO, gonO, tryEnds, wMk, wMkAt, wAt, wRaiseAt, isKd, Mth.kd, eq_self, wDis, wDnK, wDnT, wDput, wPar, wRngD, wFld, wMeth, wNew, wSfld, wCh3, wPar3, wRevL, wDputM, wText, fInT, wIng, wSfld2, wDead, eIn_tI, eIn_lI, eEq_tI, eEq_lI, eEq_tl, eEq_tl', eEq_bl, eEq_tN, eEq_lN, fIsE, Ufn.f, fSSet, fLSet, if_true, if_false, Bool.true_xor, Bool.xor_false, seqOf, fIxA, fSlA, fAddA, fInA, wSeqA, wEnumA, isKd, Mth.kd, fB2, okD_int, okD_bl, okDs_intsN, inD_ints, fRepL, fAddS, fIxS, eEq_int, wCh, fLRng, fRevT, fRow2, fTRng, fLSetT])
def n_law_e_whole : List Str := ["thing"]
def b_law_e_whole : Sl := .cons (.ret (.and (.blf (.isi "int") (.cons (.var 0) (.cons (.blt "int" "int") (.nil)))) (.not (.blf (.isi "bool") (.cons (.var 0) (.cons (.blt "bool" "bool") (.nil))))))) (.nil)
def sp_law_e_whole : GSp := sp_is_whole
theorem w_law_e_whole : ∀ ds g Q W, sp_law_e_whole ds g Q W → wSs b_law_e_whole (bodyEnds g Q W) (startD 1 ds) g := w_is_whole
/-! ### falls, stands -/
theorem forW_enum {α : Type} (enc : α → D) {gd : GH → Prop} {tg : Tg} {tb : TSD} {De : DEnds} (I : Nat → DEnv → GH → Prop) {xs : List α} {ρ : DEnv} {g : GH} (h0 : I 0 ρ g) (hg : ∀ i ρ g, I i ρ g → gd g)
    (hs : ∀ i x, xs[i]? = some x → ∀ ρ g, I i ρ g → ∀ N : DEnv → GH → Prop, (∀ ρ' g', I (i + 1) ρ' g' → N ρ' g') → tgB tg (.tup [.int i, enc x]) ρ fun ρ1 => tb { De with nx := N, ct := N } ρ1 g)
    (hd : ∀ ρ g, I xs.length ρ g → De.nx ρ g) : forW gd tg tb De (enumD 0 (xs.map enc)) ρ g := by
  rw [enumD_map]
  refine forW_map (fun p : α × Nat => D.tup [.int p.2, enc p.1]) I h0 hg (fun i p hi ρ g hI N hN => ?_) fun ρ g h => hd ρ g (by rw [List.length_zipIdx] at h; exact h)
  rw [List.getElem?_zipIdx] at hi
  cases e : xs[i]? with
  | none => rw [e] at hi; cases hi
  | some x =>
    rw [e] at hi
    cases hi
    have := hs i x e ρ g hI N hN
    simpa using this
end G3

/-! Q6: what the laws on texts draw and write -/
namespace G3
open PySem L2
local macro_rules | `(tactic| walk_at "wp") => `(tactic| simp only [wSs, wS, wE, wL, wO, wSq, wRet, wRetN, wAsg, wIf, wDrop, wFor, wPut, wNx, wArgs, wCons, wNil, wCall, wComp, wI, wB, wSeqT, wSeqL, wRng1, wRng2, wEnumL, wEnumT, wVar, wC, wBin, wUn, wNot, wAnd, wOr, wIte, wTest, wTrk, wSlc, wNoPart, wPart, fMt, List.getElem?_cons_succ, List.getElem?_cons_zero, tupOf, lstOf, gdOf, ex_eq, ex_eq', ex2_eq, ex2_eq', Bfn.f, Mth.f, compT, tgB, setAll, wipeD, wYes, List.map_cons, List.map_nil, List.set_cons_succ, List.set_cons_zero, List.length_cons, List.length_nil, Bop.f, Cop.f, Iop.f, fI2, fS2, fIx, fNeg, true_and, and_true, if_true, bodyEnds, R.fz_v, R.fz_tl, atI_0, atI_1, atI_2, atI_3, Option.some.injEq, DO.lst.injEq, decide_eq_true_eq, gup_same, gup_gup, or_false, ixN_s0, ixN_s1, ixN_s2, List.length_set, List.length_map, szl, Nat.reduceAdd, Nat.zero_add, Nat.reduceLeDiff, Nat.zero_le, Int.reduceLE, exists_eq', false_or, fAddT, fAddL, fSl, rolOf, Bool.not_true, Bool.not_false, Bool.false_eq_true, if_false, Bool.false_xor, Bool.xor_true, beq_self_eq_true, isiB_bb, isiB_ll, decide_true, isiB_tt, fIsN, isNon, wTry, wCallv, wRaise, setO, gonO, tryEnds, wMk, wMkAt, wAt, wRaiseAt, isKd, Mth.kd, eq_self, wDis, wDnK, wDnT, wDput, wPar, wRngD, wFld, wMeth, wNew, wSfld, wCh3, wPar3, wRevL, wDputM, wText, fInT, wIng, wSfld2, wDead])
local macro_rules | `(tactic| walk_at "stp") => `(tactic| first | (rw [wHid_eq]; conv in (wSs _) => arg 1; whnf) | (conv in (wSs _) => arg 1; whnf))
local macro_rules | `(tactic| walk_at "wx") => `(tactic| simp only [wSs, wS, wE, wL, wO, wSq, wRet, wRetN, wAsg, wIf, wDrop, wFor, wPut, wNx, wArgs, wCons, wNil, wCall, wComp, wI, wB, wSeqT, wSeqL, wRng1, wRng2, wEnumL, wEnumT, wVar, wC, wBin, wUn, wNot, wAnd, wOr, wIte, wTest, wTrk, wSlc, wNoPart, wPart, fMt, List.getElem?_cons_succ, List.getElem?_cons_zero, tupOf, lstOf, gdOf, ex_eq, ex_eq', ex2_eq, ex2_eq', Bfn.f, Mth.f, compT, tgB, setAll, wipeD, wYes, List.map_cons, List.map_nil, List.set_cons_succ, List.set_cons_zero, List.length_cons, List.length_nil, Bop.f, Cop.f, Iop.f, fI2, fS2, fIx, fNeg, true_and, and_true, if_true, bodyEnds, R.fz_v, R.fz_tl, atI_0, atI_1, atI_2, atI_3, Option.some.injEq, DO.lst.injEq, decide_eq_true_eq, gup_same, gup_gup, or_false, ixN_s0, ixN_s1, ixN_s2, List.length_set, List.length_map, szl, Nat.reduceAdd, Nat.zero_add, Nat.reduceLeDiff, Nat.zero_le, Int.reduceLE, exists_eq', false_or, fAddT, fAddL, fSl, rolOf, Bool.not_true, Bool.not_false, Bool.false_eq_true, if_false, Bool.false_xor, Bool.xor_true, beq_self_eq_true, isiB_bb, isiB_ll, decide_true, isiB_tt, fIsN, isNon, wTry, wCallv, wRaise, setO, gonO, tryEnds, wMk, wMkAt, wAt, wRaiseAt, isKd, Mth.kd, eq_self, wDis, wDnK, wDnT, wDput, wPar, wRngD, wFld, wMeth, wNew, wSfld, wCh3, wPar3, wRevL, wDputM, wText, fInT, wIng, wSfld2, wDead, eIn_tI, eIn_lI, eEq_tI, eEq_lI, eEq_tl, eEq_tl', eEq_bl, eEq_tN, eEq_lN, fIsE, Ufn.f, fSSet, fLSet, if_true, if_false, Bool.true_xor, Bool.xor_false, seqOf, fIxA, fSlA, fAddA, fInA, wSeqA, wEnumA, isKd, Mth.kd, fB2, okD_int, okD_bl, okDs_intsN, inD_ints, fRepL, fAddS, fIxS, eEq_int, wCh, fLRng, fRevT, fRow2, fTRng, fLSetT])
theorem rowsN_of {rows : List D} (hl : rows.length ≤ 1000) (h : ∀ i d, rows[i]? = some d → RowW i d) : ∀ r ∈ rows, RowN r := fun r hr => by
  obtain ⟨i, hi⟩ := List.getElem?_of_mem hr
  exact (h i r hi).n (by have := (List.getElem?_eq_some_iff.mp hi).1; omega)
theorem RowN.sx {d : D} (h : RowN d) : Sx 1 564 d := by
  rcases h with ⟨k, h0, h1, rfl⟩ | ⟨a, b, k, a0, a1, b0, b1, k0, k1, rfl⟩
  · refine Sx.up (n := 1) (w := 2 * 141) (Sxs.tup (n := 0) (w := 140) (fun d hd => ?_) (Nat.le_refl _)) (by decide) (by decide)
    simp only [List.mem_cons, List.not_mem_nil, or_false] at hd
    rcases hd with rfl | rfl
    · exact Sx.str (by decide +kernel) (by decide +kernel)
    · exact Sx.int (by omega)
  · refine Sx.up (n := 1) (w := 4 * 141) (Sxs.tup (n := 0) (w := 140) (fun d hd => ?_) (Nat.le_refl _)) (by decide) (by decide)
    simp only [List.mem_cons, List.not_mem_nil, or_false] at hd
    rcases hd with rfl | rfl | rfl | rfl
    · exact Sx.str (by decide +kernel) (by decide +kernel)
    · exact Sx.int (by omega)
    · exact Sx.int (by omega)
    · exact Sx.int (by omega)
theorem sayS_eq : ∀ n : Fin 17, (if ((n.val : Int) - 8) < 0 then Str.ofString "-" else Str.ofString "") ++ ⟨#[48 + ((n.val : Int) - 8).natAbs]⟩ = strI ((n.val : Int) - 8) := by decide +kernel
theorem sayS {s : Int} (h : s.natAbs ≤ 8) : (if s < 0 then Str.ofString "-" else Str.ofString "") ++ ⟨#[48 + s.natAbs]⟩ = strI s := by
  have := sayS_eq ⟨(s + 8).toNat, by omega⟩
  rwa [show (((s + 8).toNat : Nat) : Int) - 8 = s by omega] at this
theorem digs_at {k : Nat} (h : k ≤ 8) : digs[k]? = some (48 + k) := by
  rcases (by omega : k = 0 ∨ k = 1 ∨ k = 2 ∨ k = 3 ∨ k = 4 ∨ k = 5 ∨ k = 6 ∨ k = 7 ∨ k = 8) with rfl | rfl | rfl | rfl | rfl | rfl | rfl | rfl | rfl <;> rfl
theorem strOk8 : ∀ n : Fin 17, PyData.strOk (strI ((n.val : Int) - 8)) = true := by decide +kernel
theorem okD_say {n : Nat} {s : Int} (h : s.natAbs ≤ 8) : okD n (.str (strI s)) = true := by
  have := strOk8 ⟨(s + 8).toNat, by omega⟩
  rw [show (((s + 8).toNat : Nat) : Int) - 8 = s by omega] at this
  cases n <;> exact this
def b_law_e_words_4 : Sl := .cons (.ret (.mth .join (.cst (.str " ")) (.cons (.ite (.cmp .neD (.var 1) (.lst (.nil))) (.var 1) (.lst (.cons (.cst (.str "none")) (.nil)))) (.nil)))) (.nil)
def b_law_e_words_3 : Sl := .cons (.expr (.mth .append (.var 1) (.cons (.bin .addS (.idx .l (.lst (.cons (.cst (.str "")) (.cons (.cst (.str "-")) (.nil)))) (.blf .intB (.cons (.cmp .ltI (.var 2) (.cst (.int 0))) (.nil)))) (.idx .s (.cst (.str "0123456789")) (.blf .abs (.cons (.var 2) (.nil))))) (.nil)))) (.nil)
def b_law_e_words : Sl := .cons (.asg (.nm 1) (.trk (.lst (.nil)))) (.cons (.for_ (.seqT (.var 0)) (.nm 2) (.part b_law_e_words_3)) (.part b_law_e_words_4))
def sp_law_e_words : GSp := fun ds g Q _ => ∃ c : List Int, ds = [cl c] ∧ c.length ≤ 100 ∧ (∀ z ∈ c, z.natAbs ≤ 8) ∧ Q (.v (.str (claimS c))) g
theorem w_law_e_words : ∀ ds g Q W, sp_law_e_words ds g Q W → wSs b_law_e_words (bodyEnds g Q W) (startD 3 ds) g := by
  rintro ds g Q W ⟨c, rfl, hl, h8, h⟩
  change wSs _ _ [some _, none, none] g
  walk_at "stp"; walk_at "wx"
  intro q hq
  walk_at "stp"; walk_at "wx"
  refine forW_map D.int (fun k ρ g' => ∃ x2, g' = gup g q (.lst ((c.take k).map fun s => .str (strI s))) ∧ ρ = [some (cl c), some (.ref q), x2]) ⟨_, rfl, rfl⟩ (fun _ _ _ _ => trivial) ?_ ?_
  · rintro i s hs ρ g' ⟨x2, rfl, rfl⟩ N hN
    have h8s := h8 s (List.mem_of_getElem? hs)
    walk_at "wx"
    have hil := (List.getElem?_eq_some_iff.mp hs).1
    have e1 : (if s < 0 then -s else s) = ((s.natAbs : Nat) : Int) := by split <;> omega
    refine ⟨.str (if s < 0 then Str.ofString "-" else Str.ofString ""), by split <;> rfl, by decide +kernel, 48 + s.natAbs, by rw [digs_eq, e1, atI_nat', digs_at h8s], ?_⟩
    show _ ≤ _ ∧ _ < _ ∧ _
    have hl1 : (if s < 0 then Str.ofString "-" else Str.ofString "").length ≤ 1 := by split <;> decide +kernel
    refine ⟨Nat.le_trans (Nat.add_le_add hl1 (Nat.le_refl 1)) (by decide), by rw [List.length_take]; omega, ?_⟩
    rw [sayS h8s]
    refine hN _ _ ⟨_, ?_, rfl⟩
    rw [List.take_succ, hs, List.map_append]; rfl
  · rintro ρ g' ⟨x2, rfl, rfl⟩
    walk_at "stp"; walk_at "wx"
    rw [List.take_length]
    have eW : (c.map fun s => D.str (strI s)) = (c.map strI).map .str := by rw [List.map_map]; rfl
    have hw := claimW_len h8
    unfold claimS at h
    unfold claimW at h hw
    by_cases hc : c = []
    · rw [if_pos hc] at h
      subst hc
      refine feqT (d := .lst []) (e := .lst []) (resR_ref gup_same) rfl rfl (by decide) rfl ?_
      walk_at "wx"
      exact ⟨[Str.ofString "none"], rfl, by decide +kernel, .less (gle_up gle_rfl hq) h⟩
    · rw [if_neg hc] at h hw
      refine feqF (d := .lst (c.map fun s => .str (strI s))) (e := .lst []) (resR_ref gup_same) rfl (okD_lst (fun s => .str (strI s)) fun s hs => okD_say (h8 s hs)) (by decide) (by cases c with | nil => exact absurd rfl hc | cons _ _ => rfl) ?_
      walk_at "wx"
      refine ⟨c.map strI, eW, ?_, .less (gle_up gle_rfl hq) h⟩
      have := join_len (sep := spS) hw
      rw [spS_len, List.length_map] at this
      show (List.map (fun x => x.length) (c.map strI)).sum + (c.map strI).length * spS.length ≤ 16777216
      rw [spS_len, List.length_map]
      omega
def n_law_e_rows_text : List Str := ["rows", "row", "number"]
def b_law_e_rows_text : Sl := .cons (.ret (.mth .join (.cst (.str " / ")) (.cons (.comp [("row", 1)] (.seqL (.var 0)) (.nm 1) (.no) (.mth .join (.cst (.str " ")) (.cons (.bin .addL (.lst (.cons (.idx .t (.var 1) (.cst (.int 0))) (.nil))) (.comp [("number", 2)] (.seqT (.slc .t (.var 1) (.so (.cst (.int 1))) (.no))) (.nm 2) (.no) (.blf .strI (.cons (.var 2) (.nil))))) (.nil)))) (.nil)))) (.nil)
def sp_law_e_rows_text : GSp := fun ds g Q _ => ∃ (rows : List D), ds = [.lst rows] ∧ rows.length ≤ 1000 ∧ (∀ r ∈ rows, RowN r) ∧ Q (.v (.str (rowsS rows))) g
theorem w_law_e_rows_text : ∀ ds g Q W, sp_law_e_rows_text ds g Q W → wSs b_law_e_rows_text (bodyEnds g Q W) (startD 3 ds) g := by
  rintro ds g Q W ⟨rows, rfl, hl, hr, h⟩
  change wSs _ _ [some _, none, none] g
  walk_at "stp"; walk_at "wx"
  refine compW_dd (fun r => .str (Txt.join spS (rowW r))) (by trivial) (fun r hm P hP => ?_) (by rw [szl]; omega) ?_
  · have hw := rowW_words (hr r hm)
    rcases hr r hm with ⟨k, h0, h1, rfl⟩ | ⟨a, b, k, a0, a1, b0, b1, k0, k1, rfl⟩
    · walk_at "wx"
      refine ⟨[.str (Str.ofString "book"), .int k], _, rfl, atI_0, _, rfl, ?_⟩
      refine compW_dd (xs := [D.int k]) (fun d => .str (partS d)) (by trivial) (fun d hdm P hP => ?_) (by rw [szl]; simp) ?_
      · obtain rfl := List.mem_singleton.mp hdm
        walk_at "wx"
        exact ⟨log_ok (by omega), hP⟩
      · refine ⟨by simp, rowW (bookD k), rfl, ?_, hP⟩
        have := join_len (sep := spS) (b := 4) fun w hwm => (hw w hwm).2
        refine Nat.le_trans this ?_
        rw [spS_len]
        show 2 * (4 + 1) ≤ _
        decide
    · walk_at "wx"
      refine ⟨[.str (Str.ofString "cut"), .int a, .int b, .int k], _, rfl, atI_0, _, rfl, ?_⟩
      refine compW_dd (xs := [D.int a, D.int b, D.int k]) (fun d => .str (partS d)) (by trivial) (fun d hdm P hP => ?_) (by rw [szl]; simp) ?_
      · simp only [List.mem_cons, List.not_mem_nil, or_false] at hdm
        rcases hdm with rfl | rfl | rfl
        all_goals
          walk_at "wx"
          exact ⟨log_ok (by omega), hP⟩
      · refine ⟨by simp, rowW (wayD a b k), rfl, ?_, hP⟩
        have := join_len (sep := spS) (b := 4) fun w hwm => (hw w hwm).2
        refine Nat.le_trans this ?_
        rw [spS_len]
        show 4 * (4 + 1) ≤ _
        decide
  · refine ⟨rows.map fun r => Txt.join spS (rowW r), by rw [List.map_map]; rfl, ?_, .same h⟩
    have := join_len (sep := slS) (b := 20) (ls := rows.map fun r => Txt.join spS (rowW r)) (fun x hx => by
      obtain ⟨d, hd, rfl⟩ := List.mem_map.mp hx
      exact rowS_len (hr d hd))
    rw [slS_len, List.length_map] at this
    show (List.map (fun x => x.length) (rows.map fun r => Txt.join spS (rowW r))).sum + (rows.map fun r => Txt.join spS (rowW r)).length * slS.length ≤ 16777216
    rw [slS_len, List.length_map]
    omega
def n_law_e_drawn_rows : List Str := ["pen", "many", "rows", "row", "one"]
def b_law_e_drawn_rows_7 : Sl := .cons (.expr (.mth .append (.var 2) (.cons (.var 3) (.nil)))) (.nil)
def b_law_e_drawn_rows_6 : Sl := .cons (.asg (.nm 3) (.tup (.cons (.cst (.str "cut")) (.cons (.var 4) (.cons (.call "_law_e_take" sp_law_e_take (.cons (.var 0) (.cons (.blf .len (.cons (.var 2) (.nil))) (.nil)))) (.cons (.bin .addI (.cst (.int 1)) (.call "_law_e_take" sp_law_e_take (.cons (.var 0) (.cons (.cst (.int 8)) (.nil))))) (.nil))))))) (.nil)
def b_law_e_drawn_rows_5 : Sl := .cons (.asg (.nm 4) (.idx .l (.lst (.cons (.bin .subI (.blf .len (.cons (.var 2) (.nil))) (.cst (.int 1))) (.cons (.call "_law_e_take" sp_law_e_take (.cons (.var 0) (.cons (.blf .len (.cons (.var 2) (.nil))) (.nil)))) (.nil)))) (.call "_law_e_take" sp_law_e_take (.cons (.var 0) (.cons (.cst (.int 2)) (.nil)))))) (.part b_law_e_drawn_rows_6)
def b_law_e_drawn_rows_4 : Sl := .cons (.ifs (.cmp .gtI (.call "_law_e_take" sp_law_e_take (.cons (.var 0) (.cons (.cst (.int 3)) (.nil)))) (.cst (.int 0))) (.part b_law_e_drawn_rows_5) (.nil)) (.part b_law_e_drawn_rows_7)
def b_law_e_drawn_rows_3 : Sl := .cons (.asg (.nm 3) (.tup (.cons (.cst (.str "book")) (.cons (.idx .l (.lst (.cons (.cst (.int 0)) (.cons (.cst (.int 15)) (.cons (.call "_law_e_take" sp_law_e_take (.cons (.var 0) (.cons (.cst (.int 16)) (.nil)))) (.nil))))) (.call "_law_e_take" sp_law_e_take (.cons (.var 0) (.cons (.cst (.int 3)) (.nil))))) (.nil))))) (.part b_law_e_drawn_rows_4)
def b_law_e_drawn_rows_2 : Sl := .cons (.whl (.cmp .ltI (.blf .len (.cons (.var 2) (.nil))) (.var 1)) (.part b_law_e_drawn_rows_3)) (.cons (.ret (.var 2)) (.nil))
def b_law_e_drawn_rows : Sl := .cons (.asg (.nm 2) (.trk (.lst (.cons (.tup (.cons (.cst (.str "book")) (.cons (.call "_law_e_take" sp_law_e_take (.cons (.var 0) (.cons (.cst (.int 16)) (.nil)))) (.nil)))) (.nil))))) (.part b_law_e_drawn_rows_2)
def sp_law_e_drawn_rows : GSp := fun ds g Q _ => ∃ (p : Addr) (o : DO) (n : Int) (many : Nat), ds = [.ref p, .int many] ∧ g p = some o ∧ PenO o n ∧ n + 1500 ≤ 2 ^ 28 ∧ 1 ≤ many ∧ many ≤ 201 ∧
  ∀ (rows : List D) (o' : DO), (∀ i d, rows[i]? = some d → RowW i d) → rows.length = many → PenO o' (n + 1500) → Q (.tl rows) (gup g p o')
theorem w_law_e_drawn_rows : ∀ ds g Q W, sp_law_e_drawn_rows ds g Q W → wSs b_law_e_drawn_rows (bodyEnds g Q W) (startD 5 ds) g := by
  rintro ds g Q W ⟨p, o, n, many, rfl, hp, hf, hn, hm1, hm2, h⟩
  change wSs _ _ [some _, some _, none, none, none] g
  walk_at "stp"; walk_at "wx"
  refine ⟨p, o, _, _, rfl, hp, hf, by omega, by omega, by omega, fun d o1 hd0 hd1 hf1 => ?_⟩
  walk_at "wx"
  intro q hq
  have pq : p ≠ q := fun e => by rw [← e, gup_same] at hq; cases hq
  have gq : g q = none := by rw [gup_ne pq.symm] at hq; exact hq
  walk_at "stp"; walk_at "wx"
  refine whlW_dec (m := many - 1) (fun m ρ g' => ∃ (rows : List D) (o : DO) (x3 x4 : Option D), rows.length + m = many ∧ 1 ≤ rows.length ∧ (∀ i d, rows[i]? = some d → RowW i d) ∧ PenO o (n + 7 * rows.length) ∧ g' = gup (gup g p o) q (.lst rows) ∧ ρ = [some (.ref p), some (.int many), some (.ref q), x3, x4]) ?_ ?_
  · refine ⟨[bookD d], o1, none, none, by simp; omega, by simp, fun i e he => ?_, hf1.up (by simp), rfl, rfl⟩
    cases i with
    | zero => cases he; exact .inl ⟨d, hd0, by omega, rfl⟩
    | succ i => cases he
  · rintro m ρ g' ⟨rows, o2, x3, x4, hlm, hl1, hR, hf2, rfl, rfl⟩ N hN
    walk_at "wx"
    have comm : ∀ (o : DO) (L : List D), gup (gup g p o) q (.lst L) p = some o := fun o L => by rw [gup_ne pq]; exact gup_same
    by_cases hlt : rows.length < many
    · rw [if_pos (by omega)]
      walk_at "stp"; walk_at "wx"
      refine ⟨p, o2, _, _, rfl, comm _ _, hf2, by omega, by omega, by omega, fun d1 o3 h10 h11 hf3 => ?_⟩
      rw [gup_in1 pq]
      walk_at "wx"
      refine ⟨p, o3, _, _, rfl, comm _ _, hf3, by omega, by omega, by omega, fun d2 o4 h20 h21 hf4 => ?_⟩
      rw [gup_in1 pq]
      walk_at "wx"
      obtain ⟨y, hy0, hy1, ey⟩ : ∃ y : Int, 0 ≤ y ∧ y ≤ 15 ∧ L2.atI [D.int 0, D.int 15, D.int d1] d2 = some (.int y) := by
        rcases (by omega : d2 = 0 ∨ d2 = 1 ∨ d2 = 2) with rfl | rfl | rfl
        · exact ⟨0, by omega, by omega, atI_0⟩
        · exact ⟨15, by omega, by omega, atI_1⟩
        · exact ⟨d1, by omega, by omega, atI_2⟩
      refine ⟨_, ey, ?_⟩
      have put : ∀ (d : D) (o5 : DO) (x4 : Option D), RowW rows.length d → PenO o5 (n + 7 * rows.length + 7) → wHid (wSs b_law_e_drawn_rows_7) { nx := N, rt := RetOk g Q, ct := N, ex := XRet W } [some (.ref p), some (.int many), some (.ref q), some d, x4] (gup (gup g p o5) q (.lst rows)) := by
        intro d o5 x4 hd h5
        walk_at "stp"; walk_at "wx"
        refine ⟨by omega, ?_⟩
        refine hN (m - 1) _ _ (by omega) ⟨rows ++ [d], o5, _, _, by simp; omega, by simp, fun i e he => ?_, h5.up (by simp; omega), rfl, rfl⟩
        by_cases hi : i < rows.length
        · rw [List.getElem?_append_left hi] at he
          exact hR i e he
        · rw [List.getElem?_append_right (by omega)] at he
          have e0 : i - rows.length = 0 := by
            have := (List.getElem?_eq_some_iff.mp he).1
            simp at this; omega
          rw [e0] at he
          cases he
          rwa [show i = rows.length by omega]
      walk_at "stp"; walk_at "wx"
      refine ⟨p, o4, _, _, rfl, comm _ _, hf4, by omega, by omega, by omega, fun d3 o5 h30 h31 hf5 => ?_⟩
      rw [gup_in1 pq]
      walk_at "wx"
      by_cases c3 : d3 > 0
      · rw [if_pos c3]
        walk_at "stp"; walk_at "wx"
        refine ⟨p, o5, _, _, rfl, comm _ _, hf5, by omega, by omega, by omega, fun d4 o6 h40 h41 hf6 => ?_⟩
        rw [gup_in1 pq]
        walk_at "wx"
        refine ⟨p, o6, _, _, rfl, comm _ _, hf6, by omega, by omega, by omega, fun d5 o7 h50 h51 hf7 => ?_⟩
        rw [gup_in1 pq]
        obtain ⟨z, hz0, hz1, ez⟩ : ∃ z : Int, 0 ≤ z ∧ z < rows.length ∧ L2.atI [D.int ((rows.length : Int) - 1), D.int d4] d5 = some (.int z) := by
          rcases (by omega : d5 = 0 ∨ d5 = 1) with rfl | rfl
          · exact ⟨_, by omega, by omega, atI_0⟩
          · exact ⟨_, by omega, by omega, atI_1⟩
        walk_at "wx"
        refine ⟨_, ez, ?_⟩
        walk_at "stp"; walk_at "wx"
        refine ⟨p, o7, _, _, rfl, comm _ _, hf7, by omega, by omega, by omega, fun d6 o8 h60 h61 hf8 => ?_⟩
        rw [gup_in1 pq]
        walk_at "wx"
        refine ⟨p, o8, _, _, rfl, comm _ _, hf8, by omega, by omega, by omega, fun d7 o9 h70 h71 hf9 => ?_⟩
        rw [gup_in1 pq]
        walk_at "wx"
        exact put _ _ _ (.inr ⟨z, d6, 1 + d7, hz0, hz1, h60, h61, by omega, by omega, rfl⟩) (hf9.up (by omega))
      · rw [if_neg c3]
        exact put _ _ _ (.inl ⟨y, hy0, hy1, rfl⟩) (hf5.up (by omega))
    · rw [if_neg (by omega)]
      have hle : rows.length = many := by omega
      refine .tl gup_same gq (by rw [gup_ne pq.symm]; exact gq) (gle_up gle_rfl (by rw [gup_ne pq.symm]; exact gq)) (h rows o2 hR hle (hf2.up (by omega)))
end G3

/-! Q7: texts spoilt -/
namespace G3
open PySem L2
local macro_rules | `(tactic| walk_at "wp") => `(tactic| simp only [wSs, wS, wE, wL, wO, wSq, wRet, wRetN, wAsg, wIf, wDrop, wFor, wPut, wNx, wArgs, wCons, wNil, wCall, wComp, wI, wB, wSeqT, wSeqL, wRng1, wRng2, wEnumL, wEnumT, wVar, wC, wBin, wUn, wNot, wAnd, wOr, wIte, wTest, wTrk, wSlc, wNoPart, wPart, fMt, List.getElem?_cons_succ, List.getElem?_cons_zero, tupOf, lstOf, gdOf, ex_eq, ex_eq', ex2_eq, ex2_eq', Bfn.f, Mth.f, compT, tgB, setAll, wipeD, wYes, List.map_cons, List.map_nil, List.set_cons_succ, List.set_cons_zero, List.length_cons, List.length_nil, Bop.f, Cop.f, Iop.f, fI2, fS2, fIx, fNeg, true_and, and_true, if_true, bodyEnds, R.fz_v, R.fz_tl, atI_0, atI_1, atI_2, atI_3, Option.some.injEq, DO.lst.injEq, decide_eq_true_eq, gup_same, gup_gup, or_false, ixN_s0, ixN_s1, ixN_s2, List.length_set, List.length_map, szl, Nat.reduceAdd, Nat.zero_add, Nat.reduceLeDiff, Nat.zero_le, Int.reduceLE, exists_eq', false_or, fAddT, fAddL, fSl, rolOf, Bool.not_true, Bool.not_false, Bool.false_eq_true, if_false, Bool.false_xor, Bool.xor_true, beq_self_eq_true, isiB_bb, isiB_ll, decide_true, isiB_tt, fIsN, isNon, wTry, wCallv, wRaise, setO, gonO, tryEnds, wMk, wMkAt, wAt, wRaiseAt, isKd, Mth.kd, eq_self, wDis, wDnK, wDnT, wDput, wPar, wRngD, wFld, wMeth, wNew, wSfld, wCh3, wPar3, wRevL, wDputM, wText, fInT, wIng, wSfld2, wDead])
local macro_rules | `(tactic| walk_at "stp") => `(tactic| first | (rw [wHid_eq]; conv in (wSs _) => arg 1; whnf) | (conv in (wSs _) => arg 1; whnf))
local macro_rules | `(tactic| walk_at "wx") => `(tactic| simp only [wSs, wS, wE, wL, wO, wSq, wRet, wRetN, wAsg, wIf, wDrop, wFor, wPut, wNx, wArgs, wCons, wNil, wCall, wComp, wI, wB, wSeqT, wSeqL, wRng1, wRng2, wEnumL, wEnumT, wVar, wC, wBin, wUn, wNot, wAnd, wOr, wIte, wTest, wTrk, wSlc, wNoPart, wPart, fMt, List.getElem?_cons_succ, List.getElem?_cons_zero, tupOf, lstOf, gdOf, ex_eq, ex_eq', ex2_eq, ex2_eq', Bfn.f, Mth.f, compT, tgB, setAll, wipeD, wYes, List.map_cons, List.map_nil, List.set_cons_succ, List.set_cons_zero, List.length_cons, List.length_nil, Bop.f, Cop.f, Iop.f, fI2, fS2, fIx, fNeg, true_and, and_true, if_true, bodyEnds, R.fz_v, R.fz_tl, atI_0, atI_1, atI_2, atI_3, Option.some.injEq, DO.lst.injEq, decide_eq_true_eq, gup_same, gup_gup, or_false, ixN_s0, ixN_s1, ixN_s2, List.length_set, List.length_map, szl, Nat.reduceAdd, Nat.zero_add, Nat.reduceLeDiff, Nat.zero_le, Int.reduceLE, exists_eq', false_or, fAddT, fAddL, fSl, rolOf, Bool.not_true, Bool.not_false, Bool.false_eq_true, if_false, Bool.false_xor, Bool.xor_true, beq_self_eq_true, isiB_bb, isiB_ll, decide_true, isiB_tt, fIsN, isNon, wTry, wCallv, wRaise, setO, gonO, tryEnds, wMk, wMkAt, wAt, wRaiseAt, isKd, Mth.kd, eq_self, wDis, wDnK, wDnT, wDput, wPar, wRngD, wFld, wMeth, wNew, wSfld, wCh3, wPar3, wRevL, wDputM, wText, fInT, wIng, wSfld2, wDead, eIn_tI, eIn_lI, eEq_tI, eEq_lI, eEq_tl, eEq_tl', eEq_bl, eEq_tN, eEq_lN, fIsE, Ufn.f, fSSet, fLSet, if_true, if_false, Bool.true_xor, Bool.xor_false, seqOf, fIxA, fSlA, fAddA, fInA, wSeqA, wEnumA, isKd, Mth.kd, fB2, okD_int, okD_bl, okDs_intsN, inD_ints, fRepL, fAddS, fIxS, eEq_int, wCh, fLRng, fRevT, fRow2, fTRng, fLSetT])
/-- a text of plain signs -/
def Asc (t : Str) : Prop := ∀ c ∈ TL.tl t, c < 128
def wl (ws : List Str) : Nat := (ws.map (·.length)).sum + ws.length
theorem wl_cons {w : Str} {ws : List Str} : wl (w :: ws) = w.length + 1 + wl ws := by
  unfold wl
  simp only [List.map_cons, List.sum_cons, List.length_cons]; omega
theorem wl_app {a b : List Str} : wl (a ++ b) = wl a + wl b := by
  unfold wl
  rw [List.map_append, List.sum_append, List.length_append]; omega
theorem wl_take {ws : List Str} {k : Nat} : wl (ws.take k) ≤ wl ws := by
  have : wl ws = wl (ws.take k) + wl (ws.drop k) := by rw [← wl_app, List.take_append_drop]
  omega
theorem wl_drop {ws : List Str} {k : Nat} : wl (ws.drop k) ≤ wl ws := by
  have : wl ws = wl (ws.take k) + wl (ws.drop k) := by rw [← wl_app, List.take_append_drop]
  omega
theorem join_wl : ∀ {ws : List Str}, ws ≠ [] → (Txt.join spS ws).length + 1 = wl ws
  | [], h => absurd rfl h
  | [w], _ => by
    rw [TL.join_eq, wl_cons]
    show w.length + 1 = _
    unfold wl; simp
  | w :: y :: r, _ => by
    have ih := join_wl (ws := y :: r) (by simp)
    rw [TL.join_eq] at ih ⊢
    rw [wl_cons, ← ih]
    show (w ++ spS ++ Str.join spS (y :: r)).length + 1 = _
    rw [Str.length_append, Str.length_append, spS_len]; omega
theorem join_le {ws : List Str} : (Txt.join spS ws).length ≤ wl ws := by
  cases ws with
  | nil => rw [TL.join_eq]; exact Nat.le_refl 0
  | cons w r => have := join_wl (ws := w :: r) (by simp); omega
theorem split_wl (t : Str) : wl (Txt.split t spS) = t.length + 1 := by
  have h := (split_ok t).2.1
  rw [← join_wl (fun e => by rw [e] at h; simp at h), TL.join_eq, StrLaws.join_split]
theorem joinL_mem {S : List Nat} {c : Nat} : ∀ {ls : List (List Nat)}, c ∈ TL.joinL S ls → c ∈ S ∨ ∃ l ∈ ls, c ∈ l
  | [], h => by simp [TL.joinL] at h
  | [l], h => .inr ⟨l, by simp, h⟩
  | l :: m :: r, h => by
    rcases List.mem_append.mp (show c ∈ l ++ (S ++ TL.joinL S (m :: r)) from h) with h | h
    · exact .inr ⟨l, by simp, h⟩
    · rcases List.mem_append.mp h with h | h
      · exact .inl h
      · rcases joinL_mem h with h | ⟨x, hx, hc⟩
        · exact .inl h
        · exact .inr ⟨x, List.mem_cons_of_mem _ hx, hc⟩
theorem mem_joinL {S : List Nat} {c : Nat} : ∀ {ls : List (List Nat)} {l : List Nat}, l ∈ ls → c ∈ l → c ∈ TL.joinL S ls
  | [], _, h, _ => by simp at h
  | [l], x, h, hc => by rw [List.mem_singleton.mp h] at hc; exact hc
  | l :: m :: r, x, h, hc => by
    show c ∈ l ++ (S ++ TL.joinL S (m :: r))
    rcases List.mem_cons.mp h with rfl | h
    · exact List.mem_append_left _ hc
    · exact List.mem_append_right _ (List.mem_append_right _ (mem_joinL h hc))
theorem Asc.join {sep : Str} {ws : List Str} (hs : Asc sep) (h : ∀ w ∈ ws, Asc w) : Asc (Txt.join sep ws) := by
  intro c hc
  rw [TL.join_eq, TL.tl_join] at hc
  rcases joinL_mem hc with hc | ⟨l, hl, hc⟩
  · exact hs c hc
  · obtain ⟨w, hw, rfl⟩ := List.mem_map.mp hl
    exact h w hw c hc
theorem Asc.split {t : Str} (h : Asc t) : ∀ w ∈ Txt.split t spS, Asc w := by
  intro w hw c hc
  refine h c ?_
  have := mem_joinL (S := TL.tl spS) (c := c) (List.mem_map.mpr ⟨w, hw, rfl⟩) hc
  rwa [← TL.tl_join, StrLaws.join_split] at this
theorem Asc.cut {t : Str} {lo hi : Option Int} (h : Asc t) : Asc (cutS t lo hi) := by
  intro c hc
  refine h c ?_
  have hc : c ∈ ((t.cps.toList.drop _).take _) := hc
  exact List.mem_of_mem_drop (List.mem_of_mem_take hc)
theorem Asc.app {a b : Str} (ha : Asc a) (hb : Asc b) : Asc (a ++ b) := by
  intro c hc
  rw [TL.tl_append] at hc
  rcases List.mem_append.mp hc with hc | hc
  · exact ha c hc
  · exact hb c hc
theorem asc_of {t : Str} (h : t.cps.all (· < 128) = true) : Asc t := by
  intro c hc
  have := Array.all_eq_true'.mp h c (Array.mem_toList_iff.mp hc)
  simpa using this
theorem asc_spS : Asc spS := asc_of (by decide +kernel)
theorem asc_slS : Asc slS := asc_of (by decide +kernel)
theorem asc_strOk {t : Str} (h : Asc t) : PyData.strOk t = true := by
  unfold PyData.strOk
  rw [Array.all_eq_true']
  intro c hc
  have := h c (Array.mem_toList_iff.mpr hc)
  simp; omega
theorem asc_num {i : Int} (h0 : 0 ≤ i) (h : i < 1000) : Asc (strI i) := by
  intro c hc
  have h4 := (strI_ok ⟨i.toNat, by omega⟩).2.2.2.1
  rw [show ((i.toNat : Nat) : Int) = i by omega] at h4
  have := of_decide_eq_true (List.all_eq_true.mp h4 c hc)
  simp only [digs, List.mem_cons, List.not_mem_nil, or_false] at this
  omega
theorem asc_rows {rows : List D} (h : ∀ r ∈ rows, RowN r) : Asc (rowsS rows) := by
  refine Asc.join asc_slS fun w hw => ?_
  obtain ⟨r, hr, rfl⟩ := List.mem_map.mp hw
  refine Asc.join asc_spS fun w hw => ?_
  rcases h r hr with ⟨k, h0, h1, rfl⟩ | ⟨a, b, k, a0, a1, b0, b1, k0, k1, rfl⟩
  · rcases List.mem_cons.mp (show w ∈ [bkW, strI k] from hw) with rfl | hw
    · exact asc_of (by decide +kernel)
    · rw [List.mem_singleton.mp hw]; exact asc_num h0 h1
  · have hw : w ∈ [ctW, strI a, strI b, strI k] := hw
    simp only [List.mem_cons, List.not_mem_nil, or_false] at hw
    rcases hw with rfl | rfl | rfl | rfl
    · exact asc_of (by decide +kernel)
    · exact asc_num a0 a1
    · exact asc_num b0 b1
    · exact asc_num k0 k1
def n_law_e_sign : List Str := ["pen", "some"]
def b_law_e_sign : Sl := .cons (.asg (.nm 1) (.bin .addS (.cst (.str " !\"#$&'()*+,-./0123456789:;<=>?\x40[\\]^_{|}~\t\n")) (.cst (.str "`")))) (.cons (.asg (.nm 1) (.bin .addS (.var 1) (.cst (.str "ABCDEFGHIJKLMNOPQRSTUVWXYZ")))) (.cons (.asg (.nm 1) (.bin .addS (.var 1) (.cst (.str "abcdefghijklmnopqrstuvwxyz")))) (.cons (.ret (.idx .s (.var 1) (.call "_law_e_take" sp_law_e_take (.cons (.var 0) (.cons (.blf .lenS (.cons (.var 1) (.nil))) (.nil)))))) (.nil))))
def signsS : Str := Str.ofString " !\"#$&'()*+,-./0123456789:;<=>?\x40[\\]^_{|}~\t\n" ++ Str.ofString "`" ++ Str.ofString "ABCDEFGHIJKLMNOPQRSTUVWXYZ" ++ Str.ofString "abcdefghijklmnopqrstuvwxyz"
theorem signs_ok : signsS.cps.all (· < 128) = true ∧ 1 ≤ signsS.length ∧ signsS.length ≤ 200 := by decide +kernel
def sp_law_e_sign : GSp := fun ds g Q _ => ∃ (p : Addr) (o : DO) (n : Int), ds = [.ref p] ∧ g p = some o ∧ PenO o n ∧ n + 1 ≤ 2 ^ 28 ∧ ∀ (s : Str) (o' : DO), Asc s → s.length = 1 → PenO o' (n + 1) → Q (.v (.str s)) (gup g p o')
theorem w_law_e_sign : ∀ ds g Q W, sp_law_e_sign ds g Q W → wSs b_law_e_sign (bodyEnds g Q W) (startD 2 ds) g := by
  rintro ds g Q W ⟨p, o, n, rfl, hp, hf, hn, h⟩
  change wSs _ _ [some _, none] g
  obtain ⟨s1, s2, s3⟩ := signs_ok
  walk_at "stp"; walk_at "wx"
  refine ⟨by decide +kernel, by decide +kernel, by decide +kernel, by decide +kernel, ?_⟩
  show sp_law_e_take [D.ref p, D.int ((signsS.length : Nat) : Int)] g _ _
  refine ⟨p, o, n, _, rfl, hp, hf, by omega, by omega, by omega, fun d o1 h0 h1 hf1 => ?_⟩
  obtain ⟨k, rfl⟩ := Int.eq_ofNat_of_zero_le h0
  have hk : k < signsS.cps.toList.length := by rw [Array.length_toList]; exact Int.ofNat_lt.mp h1
  refine ⟨by show signsS.length ≤ _; omega, signsS.cps.toList[k], ?_, .same (h _ o1 ?_ rfl hf1)⟩
  · show L2.atI signsS.cps.toList (k : Int) = _
    rw [atI_nat', List.getElem?_eq_getElem hk]
  · intro c hc
    have hc : c ∈ [signsS.cps.toList[k]] := hc
    rw [List.mem_singleton.mp hc]
    exact asc_of s1 _ (List.getElem_mem hk)
def n_law_e_spoilt : List Str := ["pen", "words", "menu", "way", "word", "at", "sign", "text", "spot", "some"]
def b_law_e_spoilt_16 : Sl := .cons (.ret (.idx .l (.bin .addL (.var 9) (.lst (.cons (.bin .addS (.bin .addS (.slc .s (.var 7) (.no) (.so (.var 8))) (.var 6)) (.slc .s (.var 7) (.so (.bin .addI (.var 8) (.cst (.int 1)))) (.no))) (.nil)))) (.bin .subI (.var 3) (.cst (.int 5))))) (.nil)
def b_law_e_spoilt_15 : Sl := .cons (.asg (.nm 9) (.lst (.cons (.bin .addS (.bin .addS (.slc .s (.var 7) (.no) (.so (.var 8))) (.var 6)) (.slc .s (.var 7) (.so (.var 8)) (.no))) (.cons (.bin .addS (.slc .s (.var 7) (.no) (.so (.var 8))) (.slc .s (.var 7) (.so (.bin .addI (.var 8) (.cst (.int 1)))) (.no))) (.nil))))) (.part b_law_e_spoilt_16)
def b_law_e_spoilt_13 : Sl := .cons (.ifs (.cmp .eqI (.var 3) (.cst (.int 4))) (.cons (.ret (.mth .join (.cst (.str " ")) (.cons (.slc .l (.var 1) (.no) (.so (.var 5))) (.nil)))) (.nil)) (.nil)) (.part b_law_e_spoilt_15)
def b_law_e_spoilt_12 : Sl := .cons (.ret (.mth .join (.cst (.str " ")) (.cons (.bin .addL (.bin .addL (.slc .l (.var 1) (.no) (.so (.var 5))) (.lst (.cons (.var 4) (.nil)))) (.slc .l (.var 1) (.so (.bin .addI (.var 5) (.cst (.int 1)))) (.no))) (.nil)))) (.nil)
def b_law_e_spoilt_11 : Sl := .cons (.ifs (.cmp .ltI (.var 3) (.cst (.int 4))) (.part b_law_e_spoilt_12) (.nil)) (.part b_law_e_spoilt_13)
def b_law_e_spoilt_10 : Sl := .cons (.ret (.mth .join (.cst (.str " ")) (.cons (.bin .addL (.bin .addL (.slc .l (.var 1) (.no) (.so (.var 5))) (.lst (.cons (.var 4) (.nil)))) (.slc .l (.var 1) (.so (.var 5)) (.no))) (.nil)))) (.nil)
def b_law_e_spoilt_9 : Sl := .cons (.ifs (.cmp .eqI (.var 3) (.cst (.int 1))) (.part b_law_e_spoilt_10) (.nil)) (.part b_law_e_spoilt_11)
def b_law_e_spoilt_8 : Sl := .cons (.ret (.mth .join (.cst (.str " ")) (.cons (.bin .addL (.slc .l (.var 1) (.no) (.so (.var 5))) (.slc .l (.var 1) (.so (.bin .addI (.var 5) (.cst (.int 1)))) (.no))) (.nil)))) (.nil)
def b_law_e_spoilt_7 : Sl := .cons (.ifs (.cmp .eqI (.var 3) (.cst (.int 0))) (.part b_law_e_spoilt_8) (.nil)) (.part b_law_e_spoilt_9)
def b_law_e_spoilt_5 : Sl := .cons (.asg (.nm 7) (.mth .join (.cst (.str " ")) (.cons (.var 1) (.nil)))) (.cons (.asg (.nm 8) (.call "_law_e_take" sp_law_e_take (.cons (.var 0) (.cons (.bin .addI (.blf .lenS (.cons (.var 7) (.nil))) (.cst (.int 1))) (.nil))))) (.part b_law_e_spoilt_7))
def b_law_e_spoilt_4 : Sl := .cons (.asg (.nm 6) (.call "_law_e_sign" sp_law_e_sign (.cons (.var 0) (.nil)))) (.part b_law_e_spoilt_5)
def b_law_e_spoilt_3 : Sl := .cons (.asg (.nm 5) (.call "_law_e_take" sp_law_e_take (.cons (.var 0) (.cons (.blf .len (.cons (.var 1) (.nil))) (.nil))))) (.part b_law_e_spoilt_4)
def b_law_e_spoilt_2 : Sl := .cons (.asg (.nm 4) (.idx .l (.var 2) (.call "_law_e_take" sp_law_e_take (.cons (.var 0) (.cons (.blf .len (.cons (.var 2) (.nil))) (.nil)))))) (.part b_law_e_spoilt_3)
def b_law_e_spoilt : Sl := .cons (.asg (.nm 3) (.call "_law_e_take" sp_law_e_take (.cons (.var 0) (.cons (.cst (.int 8)) (.nil))))) (.part b_law_e_spoilt_2)
def sp_law_e_spoilt : GSp := fun ds g Q _ => ∃ (p : Addr) (o : DO) (n : Int) (ws ms : List Str), ds = [.ref p, .lst (ws.map .str), .lst (ms.map .str)] ∧ g p = some o ∧ PenO o n ∧ n + 5 ≤ 2 ^ 28 ∧ ws ≠ [] ∧ ms ≠ [] ∧ ms.length ≤ 100 ∧ wl ws ≤ 1000000 ∧ (∀ w ∈ ws, Asc w) ∧ (∀ m ∈ ms, Asc m ∧ m.length ≤ 5) ∧
  ∀ (t : Str) (o' : DO), Asc t → t.length ≤ 2 * wl ws + 10 → PenO o' (n + 5) → Q (.v (.str t)) (gup g p o')
theorem w_law_e_spoilt : ∀ ds g Q W, sp_law_e_spoilt ds g Q W → wSs b_law_e_spoilt (bodyEnds g Q W) (startD 10 ds) g := by
  rintro ds g Q W ⟨p, o, n, ws, ms, rfl, hp, hf, hn, hws, hms, hml, hwl, hwa, hma, h⟩
  change wSs _ _ [some _, some _, some _, none, none, none, none, none, none, none] g
  walk_at "stp"; walk_at "wx"
  have hwsl : 1 ≤ ws.length := List.length_pos_iff.mpr hws
  have hmsl : 1 ≤ ms.length := List.length_pos_iff.mpr hms
  have hwl2 : ws.length ≤ wl ws := by unfold wl; omega
  refine ⟨p, o, n, _, rfl, hp, hf, by omega, by decide, by decide, fun way o1 w0 w1 hf1 => ?_⟩
  walk_at "wx"
  walk_at "stp"; walk_at "wx"
  refine ⟨p, o1, _, _, rfl, gup_same, hf1, by omega, by omega, by omega, fun d1 o2 d10 d11 hf2 => ?_⟩
  rw [gup_gup]
  obtain ⟨k1, rfl⟩ := Int.eq_ofNat_of_zero_le d10
  have hk1 : k1 < ms.length := by omega
  have hm1 := hma _ (List.getElem_mem hk1)
  walk_at "wx"
  refine ⟨.str ms[k1], by rw [atI_nat', List.getElem?_map, List.getElem?_eq_getElem hk1]; rfl, ?_⟩
  generalize ms[k1] = word at *
  walk_at "stp"; walk_at "wx"
  refine ⟨p, o2, _, _, rfl, gup_same, hf2, by omega, by omega, by omega, fun at_ o3 a0 a1 hf3 => ?_⟩
  rw [gup_gup]
  walk_at "wx"
  walk_at "stp"; walk_at "wx"
  refine ⟨p, o3, _, rfl, gup_same, hf3, by omega, fun sg o4 hsa hsl hf4 => ?_⟩
  rw [gup_gup]
  walk_at "wx"
  walk_at "stp"; walk_at "wx"
  have esum : ∀ ys : List Str, (List.map (fun x => x.length) ys).sum + ys.length * spS.length = wl ys := fun ys => by
    rw [spS_len]; unfold wl; omega
  have ht := join_le (ws := ws)
  have hta : Asc (Txt.join spS ws) := Asc.join asc_spS hwa
  refine ⟨ws, rfl, by show (List.map (fun x => x.length) ws).sum + ws.length * spS.length ≤ 16777216; rw [esum]; omega, ?_⟩
  show (Txt.join spS ws).length ≤ 16777216 ∧ sp_law_e_take [D.ref p, D.int (((Txt.join spS ws).length : Int) + 1)] _ _ _
  refine ⟨by omega, p, o4, _, _, rfl, gup_same, hf4, by omega, by omega, by omega, fun spot o5 p0 p1 hf5 => ?_⟩
  rw [gup_gup]
  change wHid (wSs b_law_e_spoilt_7) _ [some (D.ref p), some (D.lst (List.map D.str ws)), some (D.lst (List.map D.str ms)), some (D.int way), some (D.str word), some (D.int at_), some (D.str sg), some (D.str (Txt.join spS ws)), some (D.int spot), none] _
  generalize Txt.join spS ws = text at *
  have jn : ∀ ys : List Str, (∀ w ∈ ys, Asc w) → wl ys ≤ 2 * wl ws + 10 → (List.map (fun x => x.length) ys).sum + ys.length * (Str.ofString " ").length ≤ 16777216 ∧ RetOk g Q (R.v (D.str (Txt.join (Str.ofString " ") ys))) (gup g p o5) := fun ys hy hl => by
    refine ⟨?_, .same (h _ o5 (Asc.join asc_spS hy) (Nat.le_trans join_le hl) (hf5.up (by omega)))⟩
    show (List.map (fun x => x.length) ys).sum + ys.length * spS.length ≤ 16777216
    rw [esum]; omega
  have hword : wl [word] ≤ 6 := by rw [wl_cons]; unfold wl; simp; omega
  have tk : ∀ k, wl (ws.take k) ≤ wl ws := fun k => wl_take
  have dp : ∀ k, wl (ws.drop k) ≤ wl ws := fun k => wl_drop
  have tka : ∀ k, ∀ w ∈ ws.take k, Asc w := fun k w hw => hwa w (List.mem_of_mem_take hw)
  have dpa : ∀ k, ∀ w ∈ ws.drop k, Asc w := fun k w hw => hwa w (List.mem_of_mem_drop hw)
  walk_at "stp"; walk_at "wx"
  by_cases c0 : way = 0
  · rw [if_pos c0]
    walk_at "stp"; walk_at "wx"
    rw [cutD_map, cutD_map, cutD_first a0, cutD_from (by omega)]
    have h1 := tk at_.toNat
    have h2 := dp (at_ + 1).toNat
    refine ⟨by simp only [List.length_map, List.length_take, List.length_drop]; omega, ws.take at_.toNat ++ ws.drop (at_ + 1).toNat, by rw [List.map_append], jn _ (fun w hw => ?_) (by rw [wl_app]; omega)⟩
    rcases List.mem_append.mp hw with hw | hw
    · exact tka _ w hw
    · exact dpa _ w hw
  rw [if_neg c0]
  walk_at "stp"; walk_at "wx"
  by_cases c1 : way = 1
  · rw [if_pos c1]
    walk_at "stp"; walk_at "wx"
    rw [cutD_map, cutD_map, cutD_first a0, cutD_from a0]
    have h1 := tk at_.toNat
    have h2 := dp at_.toNat
    refine ⟨by simp only [List.length_map, List.length_take]; omega, by simp only [List.length_append, List.length_map, List.length_take, List.length_drop, List.length_cons, List.length_nil]; omega, ws.take at_.toNat ++ [word] ++ ws.drop at_.toNat, by simp only [List.map_append, List.map_cons, List.map_nil], jn _ (fun w hw => ?_) (by rw [wl_app, wl_app]; omega)⟩
    rcases List.mem_append.mp hw with hw | hw
    · rcases List.mem_append.mp hw with hw | hw
      · exact tka _ w hw
      · rw [List.mem_singleton.mp hw]; exact hm1.1
    · exact dpa _ w hw
  rw [if_neg c1]
  walk_at "stp"; walk_at "wx"
  by_cases c2 : way < 4
  · rw [if_pos c2]
    walk_at "stp"; walk_at "wx"
    rw [cutD_map, cutD_map, cutD_first a0, cutD_from (by omega)]
    have h1 := tk at_.toNat
    have h2 := dp (at_ + 1).toNat
    refine ⟨by simp only [List.length_map, List.length_take]; omega, by simp only [List.length_append, List.length_map, List.length_take, List.length_drop, List.length_cons, List.length_nil]; omega, ws.take at_.toNat ++ [word] ++ ws.drop (at_ + 1).toNat, by simp only [List.map_append, List.map_cons, List.map_nil], jn _ (fun w hw => ?_) (by rw [wl_app, wl_app]; omega)⟩
    rcases List.mem_append.mp hw with hw | hw
    · rcases List.mem_append.mp hw with hw | hw
      · exact tka _ w hw
      · rw [List.mem_singleton.mp hw]; exact hm1.1
    · exact dpa _ w hw
  rw [if_neg c2]
  walk_at "stp"; walk_at "wx"
  by_cases c4 : way = 4
  · rw [if_pos c4]
    rw [cutD_map, cutD_first a0]
    have h1 := tk at_.toNat
    exact ⟨ws.take at_.toNat, rfl, jn _ (tka _) (by omega)⟩
  rw [if_neg c4]
  walk_at "stp"; walk_at "wx"
  have q1 := cutS_len (w := text) (lo := none) (hi := some spot)
  have q2 := cutS_len (w := text) (lo := some spot) (hi := none)
  have q3 := cutS_len (w := text) (lo := some (spot + 1)) (hi := none)
  have b1 := hta.cut (lo := none) (hi := some spot)
  have b2 := hta.cut (lo := some spot) (hi := none)
  have b3 := hta.cut (lo := some (spot + 1)) (hi := none)
  have el : (cutS text none (some spot) ++ sg).length = (cutS text none (some spot)).length + sg.length := Str.length_append ..
  refine ⟨by omega, by omega, by omega, by rw [el]; omega, by omega, by omega, by omega, ?_⟩
  walk_at "stp"; walk_at "wx"
  refine ⟨by omega, by omega, by omega, by rw [el]; omega, ?_⟩
  have fin : ∀ s : Str, Asc s → s.length ≤ 2 * wl ws + 10 → RetOk g Q (R.v (D.str s)) (gup g p o5) := fun s a b => .same (h s o5 a b (hf5.up (by omega)))
  generalize cutS text none (some spot) = x1 at *
  generalize cutS text (some spot) none = x2 at *
  generalize cutS text (some (spot + 1)) none = x3 at *
  have e2 : (x1 ++ sg ++ x2).length = (x1 ++ sg).length + x2.length := Str.length_append ..
  have e3 : (x1 ++ sg ++ x3).length = (x1 ++ sg).length + x3.length := Str.length_append ..
  have e4 : (x1 ++ x3).length = x1.length + x3.length := Str.length_append ..
  rcases (by omega : way = 5 ∨ way = 6 ∨ way = 7) with rfl | rfl | rfl
  · exact ⟨_, atI_0, fin _ ((b1.app hsa).app b2) (by omega)⟩
  · exact ⟨_, atI_1, fin _ (b1.app b3) (by omega)⟩
  · exact ⟨_, atI_2, fin _ ((b1.app hsa).app b3) (by omega)⟩
def n_law_e_all_spoilt : List Str := ["pen", "text", "menu"]
def b_law_e_all_spoilt_3 : Sl := .cons (.asg (.nm 1) (.call "_law_e_spoilt" sp_law_e_spoilt (.cons (.var 0) (.cons (.mth .split (.var 1) (.cons (.cst (.str " ")) (.nil))) (.cons (.var 2) (.nil)))))) (.nil)
def b_law_e_all_spoilt_2 : Sl := .cons (.ifs (.cmp .eqI (.call "_law_e_take" sp_law_e_take (.cons (.var 0) (.cons (.cst (.int 2)) (.nil)))) (.cst (.int 0))) (.part b_law_e_all_spoilt_3) (.nil)) (.cons (.ret (.var 1)) (.nil))
def b_law_e_all_spoilt : Sl := .cons (.asg (.nm 1) (.call "_law_e_spoilt" sp_law_e_spoilt (.cons (.var 0) (.cons (.mth .split (.var 1) (.cons (.cst (.str " ")) (.nil))) (.cons (.var 2) (.nil)))))) (.part b_law_e_all_spoilt_2)
def sp_law_e_all_spoilt : GSp := fun ds g Q _ => ∃ (p : Addr) (o : DO) (n : Int) (t : Str) (ms : List Str), ds = [.ref p, .str t, .lst (ms.map .str)] ∧ g p = some o ∧ PenO o n ∧ n + 11 ≤ 2 ^ 28 ∧ t.length ≤ 8000 ∧ Asc t ∧ ms ≠ [] ∧ ms.length ≤ 100 ∧ (∀ m ∈ ms, Asc m ∧ m.length ≤ 5) ∧
  ∀ (t : Str) (o' : DO), Asc t → t.length ≤ 40000 → PenO o' (n + 11) → Q (.v (.str t)) (gup g p o')
theorem w_law_e_all_spoilt : ∀ ds g Q W, sp_law_e_all_spoilt ds g Q W → wSs b_law_e_all_spoilt (bodyEnds g Q W) (startD 3 ds) g := by
  rintro ds g Q W ⟨p, o, n, t, ms, rfl, hp, hf, hn, htl, hta, hms, hml, hma, h⟩
  change wSs _ _ [some _, some _, some _] g
  walk_at "stp"; walk_at "wx"
  have hw := split_wl t
  have hne := (split_ok t).2.1
  refine ⟨by decide +kernel, by omega, p, o, n, Txt.split t spS, ms, rfl, hp, hf, by omega, fun e => by rw [e] at hne; simp at hne, hms, hml, by omega, hta.split, hma, fun t1 o1 ha1 hl1 hf1 => ?_⟩
  walk_at "wx"
  walk_at "stp"; walk_at "wx"
  refine ⟨p, o1, _, _, rfl, gup_same, hf1, by omega, by decide, by decide, fun d o2 d0 d1 hf2 => ?_⟩
  rw [gup_gup]
  walk_at "wx"
  by_cases c : d = 0
  · rw [if_pos c]
    walk_at "stp"; walk_at "wx"
    have hw1 := split_wl t1
    have hne1 := (split_ok t1).2.1
    refine ⟨by decide +kernel, by omega, p, o2, _, Txt.split t1 spS, ms, rfl, gup_same, hf2, by omega, fun e => by rw [e] at hne1; simp at hne1, hms, hml, by omega, ha1.split, hma, fun t2 o3 ha2 hl2 hf3 => ?_⟩
    rw [gup_gup]
    walk_at "wx"
    exact .same (h t2 o3 ha2 (by omega) (hf3.up (by omega)))
  · rw [if_neg c]
    exact .same (h t1 o2 ha1 (by omega) (hf2.up (by omega)))
end G3

/-! Q9: the law's own reading of ladders -/
namespace G3
open PySem L2
local macro_rules | `(tactic| walk_at "wp") => `(tactic| simp only [wSs, wS, wE, wL, wO, wSq, wRet, wRetN, wAsg, wIf, wDrop, wFor, wPut, wNx, wArgs, wCons, wNil, wCall, wComp, wI, wB, wSeqT, wSeqL, wRng1, wRng2, wEnumL, wEnumT, wVar, wC, wBin, wUn, wNot, wAnd, wOr, wIte, wTest, wTrk, wSlc, wNoPart, wPart, fMt, List.getElem?_cons_succ, List.getElem?_cons_zero, tupOf, lstOf, gdOf, ex_eq, ex_eq', ex2_eq, ex2_eq', Bfn.f, Mth.f, compT, tgB, setAll, wipeD, wYes, List.map_cons, List.map_nil, List.set_cons_succ, List.set_cons_zero, List.length_cons, List.length_nil, Bop.f, Cop.f, Iop.f, fI2, fS2, fIx, fNeg, true_and, and_true, if_true, bodyEnds, R.fz_v, R.fz_tl, atI_0, atI_1, atI_2, atI_3, Option.some.injEq, DO.lst.injEq, decide_eq_true_eq, gup_same, gup_gup, or_false, ixN_s0, ixN_s1, ixN_s2, List.length_set, List.length_map, szl, Nat.reduceAdd, Nat.zero_add, Nat.reduceLeDiff, Nat.zero_le, Int.reduceLE, exists_eq', false_or, fAddT, fAddL, fSl, rolOf, Bool.not_true, Bool.not_false, Bool.false_eq_true, if_false, Bool.false_xor, Bool.xor_true, beq_self_eq_true, isiB_bb, isiB_ll, decide_true, isiB_tt, fIsN, isNon, wTry, wCallv, wRaise, setO, gonO, tryEnds, wMk, wMkAt, wAt, wRaiseAt, isKd, Mth.kd, eq_self, wDis, wDnK, wDnT, wDput, wPar, wRngD, wFld, wMeth, wNew, wSfld, wCh3, wPar3, wRevL, wDputM, wText, fInT, wIng, wSfld2, wDead])
local macro_rules | `(tactic| walk_at "stp") => `(tactic| first | (rw [wHid_eq]; conv in (wSs _) => arg 1; whnf) | (conv in (wSs _) => arg 1; whnf))
local macro_rules | `(tactic| walk_at "wx") => `(tactic| simp only [wSs, wS, wE, wL, wO, wSq, wRet, wRetN, wAsg, wIf, wDrop, wFor, wPut, wNx, wArgs, wCons, wNil, wCall, wComp, wI, wB, wSeqT, wSeqL, wRng1, wRng2, wEnumL, wEnumT, wVar, wC, wBin, wUn, wNot, wAnd, wOr, wIte, wTest, wTrk, wSlc, wNoPart, wPart, fMt, List.getElem?_cons_succ, List.getElem?_cons_zero, tupOf, lstOf, gdOf, ex_eq, ex_eq', ex2_eq, ex2_eq', Bfn.f, Mth.f, compT, tgB, setAll, wipeD, wYes, List.map_cons, List.map_nil, List.set_cons_succ, List.set_cons_zero, List.length_cons, List.length_nil, Bop.f, Cop.f, Iop.f, fI2, fS2, fIx, fNeg, true_and, and_true, if_true, bodyEnds, R.fz_v, R.fz_tl, atI_0, atI_1, atI_2, atI_3, Option.some.injEq, DO.lst.injEq, decide_eq_true_eq, gup_same, gup_gup, or_false, ixN_s0, ixN_s1, ixN_s2, List.length_set, List.length_map, szl, Nat.reduceAdd, Nat.zero_add, Nat.reduceLeDiff, Nat.zero_le, Int.reduceLE, exists_eq', false_or, fAddT, fAddL, fSl, rolOf, Bool.not_true, Bool.not_false, Bool.false_eq_true, if_false, Bool.false_xor, Bool.xor_true, beq_self_eq_true, isiB_bb, isiB_ll, decide_true, isiB_tt, fIsN, isNon, wTry, wCallv, wRaise, setO, gonO, tryEnds, wMk, wMkAt, wAt, wRaiseAt, isKd, Mth.kd, eq_self, wDis, wDnK, wDnT, wDput, wPar, wRngD, wFld, wMeth, wNew, wSfld, wCh3, wPar3, wRevL, wDputM, wText, fInT, wIng, wSfld2, wDead, eIn_tI, eIn_lI, eEq_tI, eEq_lI, eEq_tl, eEq_tl', eEq_bl, eEq_tN, eEq_lN, fIsE, Ufn.f, fSSet, fLSet, if_true, if_false, Bool.true_xor, Bool.xor_false, seqOf, fIxA, fSlA, fAddA, fInA, wSeqA, wEnumA, isKd, Mth.kd, fB2, okD_int, okD_bl, okDs_intsN, inD_ints, fRepL, fAddS, fIxS, eEq_int, wCh, fLRng, fRevT, fRow2, fTRng, fLSetT])
theorem fIn_strs {neg : Bool} {w : Str} {xs : List Str} {g : GH} {Q : QK} {r : R} (hr : lstOf g r (xs.map .str)) (hw : PyData.strOk w = true) (hx : ∀ x ∈ xs, PyData.strOk x = true) (q : Q (.v (.bl (neg ^^ xs.contains w))) g) : fIn neg (.v (.str w)) r g Q := by
  have e : inD (.str w) (xs.map .str) = xs.contains w := by
    unfold inD
    cases c : xs.contains w with
    | true =>
      exact List.any_eq_true.mpr ⟨.str w, List.mem_map.mpr ⟨w, List.contains_iff_mem.mp c, rfl⟩, deq_self _⟩
    | false =>
      refine List.any_eq_false.mpr fun d hd hq => ?_
      have := deq_strE hq
      subst this
      obtain ⟨y, hy, ey⟩ := List.mem_map.mp hd
      cases ey
      rw [List.contains_iff_mem.mpr hy] at c
      cases c
  exact ⟨_, .inl hr, hw, okDs_map D.str fun x hx' => hx x hx', by rw [R.fz_v, e]; cases neg <;> simpa using q⟩
/-- numbers as words -/
def numWs (lo n : Nat) : List Str := (List.range n).map fun (i : Nat) => strI ((lo : Int) + i)
theorem numWs_iff {lo n : Nat} {w : Str} (h : lo + n ≤ 1000) : w ∈ numWs lo n ↔ ∃ i : Int, numIn w lo ((lo : Int) + n - 1) = some i := by
  constructor
  · intro hm
    obtain ⟨i, hi, rfl⟩ := List.mem_map.mp hm
    have := List.mem_range.mp hi
    exact ⟨_, (num_iff (by omega) (by omega)).mpr ⟨by omega, by omega, rfl⟩⟩
  · rintro ⟨i, hi⟩
    obtain ⟨h1, h2, rfl⟩ := (num_iff (by omega) (by omega)).mp hi
    exact List.mem_map.mpr ⟨(i - lo).toNat, List.mem_range.mpr (by omega), by
      show strI ((lo : Int) + ((i - lo).toNat : Nat)) = _
      rw [show (lo : Int) + ((i - lo).toNat : Nat) = i by omega]⟩
theorem numWs_ok {lo n : Nat} (h : lo + n ≤ 1000) : ∀ x ∈ numWs lo n, PyData.strOk x = true := fun x hx => by
  obtain ⟨i, hi, rfl⟩ := List.mem_map.mp hx
  have := List.mem_range.mp hi
  exact asc_strOk (asc_num (by omega) (by omega))
theorem int_num' {i : Int} (h0 : 0 ≤ i) (h : i < 1000) : PySem.intText? (strI i) = some i := by
  have := (strI_ok ⟨i.toNat, by omega⟩).1
  rwa [show ((i.toNat : Nat) : Int) = i by omega] at this
theorem strI_sl : ∀ n : Fin 1000, strI (n.val : Int) ≠ slW := by decide +kernel
theorem strI_sl' {i : Int} (h0 : 0 ≤ i) (h : i < 1000) : strI i ≠ slW := by
  have := strI_sl ⟨i.toNat, by omega⟩
  rwa [show ((i.toNat : Nat) : Int) = i by omega] at this
/-- a row's parts -/
def partD : PartR → List D
  | none => []
  | some (b, is) => .str (if b then bkW else ctW) :: is.map .int
def PartOk (p : PartR) : Prop := ∀ b is, p = some (b, is) → (b = true → is.length ≤ 1) ∧ is.length ≤ 3 ∧ ∀ i ∈ is, 0 ≤ i ∧ i < 1000
theorem full_iff {b : Bool} {is : List Int} (h : PartOk (some (b, is))) : (∃ d, fullR (b, is) = some d) ↔ is.length = (if b then 1 else 3) := by
  obtain ⟨h1, h2, -⟩ := h b is rfl
  cases b with
  | true =>
    match is, h1 rfl with
    | [], _ => simp [fullR]
    | [k], _ => simp [fullR]
  | false =>
    match is, h2 with
    | [], _ => simp [fullR]
    | [_], _ => simp [fullR]
    | [_, _], _ => simp [fullR]
    | [_, _, _], _ => simp [fullR]
theorem full_tup {b : Bool} {is : List Int} {d : D} (h : fullR (b, is) = some d) : d = .tup (partD (some (b, is))) := by
  cases b with
  | true =>
    match is, h with
    | [k], h => cases h; rfl
    | [], h => cases h
    | _ :: _ :: _, h => cases h
  | false =>
    match is, h with
    | [a, b, k], h => cases h; rfl
    | [], h => cases h
    | [_], h => cases h
    | [_, _], h => cases h
    | _ :: _ :: _ :: _ :: _, h => cases h
theorem full_n {b : Bool} {is : List Int} {d : D} (hp : PartOk (some (b, is))) (h : fullR (b, is) = some d) : RowN d := by
  have hi := (hp b is rfl).2.2
  cases b with
  | true =>
    match is, h, hi with
    | [k], h, hi => cases h; exact .inl ⟨k, (hi k (by simp)).1, (hi k (by simp)).2, rfl⟩
    | [], h, _ => cases h
    | _ :: _ :: _, h, _ => cases h
  | false =>
    match is, h, hi with
    | [x, y, k], h, hi => cases h; exact .inr ⟨x, y, k, (hi x (by simp)).1, (hi x (by simp)).2, (hi y (by simp)).1, (hi y (by simp)).2, (hi k (by simp)).1, (hi k (by simp)).2, rfl⟩
    | [], h, _ => cases h
    | [_], h, _ => cases h
    | [_, _], h, _ => cases h
    | _ :: _ :: _ :: _ :: _, h, _ => cases h
/-- the number that is due next: from, how many -/
def dueLo (is : List Int) : Nat := if is.length = 2 then 1 else 0
def dueN (b : Bool) (is : List Int) (rows : Nat) : Nat := if b = true then 16 else if is.length = 2 then 8 else rows
theorem due_eq {b : Bool} {is : List Int} {rows : List D} (hp : PartOk (some (b, is))) (w : Str) : numIn w (if is.length = 2 then 1 else 0) (if b = true then 15 else if is.length = 2 then 8 else (rows.length : Int) - 1) = numIn w (dueLo is : Nat) ((dueLo is : Nat) + (dueN b is rows.length : Nat) - 1) := by
  obtain ⟨h1, h2, -⟩ := hp b is rfl
  unfold dueLo dueN
  cases b with
  | true =>
    have c : ¬ is.length = 2 := by have := h1 rfl; omega
    simp only [c, if_false, if_true]
    rfl
  | false =>
    by_cases c : is.length = 2
    · simp only [c, if_true, Bool.false_eq_true, if_false]
      rfl
    · simp only [c, if_false, Bool.false_eq_true]
      rw [show (((0 : Nat) : Int) + (rows.length : Int) - 1) = (rows.length : Int) - 1 by omega]
      rfl
theorem PartOk.snoc {b : Bool} {is : List Int} {i : Int} (hp : PartOk (some (b, is))) (hn : fullR (b, is) = none) (h0 : 0 ≤ i) (h1 : i < 1000) : PartOk (some (b, is ++ [i])) := by
  intro b' is' e
  cases e
  obtain ⟨p1, p2, p3⟩ := hp b is rfl
  have hf : is.length ≠ (if b then 1 else 3) := fun e => by
    obtain ⟨d, hd⟩ := (full_iff hp).mpr e
    rw [hn] at hd; cases hd
  refine ⟨fun e => ?_, ?_, fun x hx => ?_⟩
  · subst e
    have h1 := p1 rfl
    have hf : is.length ≠ 1 := hf
    rw [List.length_append]
    show is.length + 1 ≤ 1
    omega
  · rw [List.length_append]
    show is.length + 1 ≤ 3
    cases b with
    | true => have := p1 rfl; omega
    | false =>
      have hf : is.length ≠ 3 := hf
      omega
  · rcases List.mem_append.mp hx with hx | hx
    · exact p3 x hx
    · rw [List.mem_singleton.mp hx]; exact ⟨h0, h1⟩
theorem ladA_ok : ∀ (l : List Str) (n : Nat) (rows : List D) (p : PartR), (∀ r ∈ rows, RowN r) → rows.length ≤ 199 → PartOk p →
    (∀ R, ladA l n rows p = .inr R → (∀ r ∈ R, RowN r) ∧ R.length ≤ 200) ∧ ∀ e, ladA l n rows p = .inl e → e ≤ n + l.length
  | [], n, rows, none, _, _, _ => ⟨(fun B h => by cases h), (fun e h => by cases h; exact Nat.le_refl _)⟩
  | [], n, rows, some p, hr, hl, hp => by
    have e : ladA [] n rows (some p) = match fullR p with | some d => .inr (rows ++ [d]) | none => .inl n := rfl
    rw [e]
    cases e1 : fullR p with
    | none => exact ⟨(fun B h => by cases h), (fun e h => by cases h; exact Nat.le_refl _)⟩
    | some d =>
      refine ⟨fun R h => ?_, (fun e h => by cases h)⟩
      cases h
      refine ⟨fun r hm => ?_, by simp; omega⟩
      rcases List.mem_append.mp hm with hm | hm
      · exact hr r hm
      · rw [List.mem_singleton.mp hm]
        exact full_n (b := p.1) (is := p.2) hp e1
  | w :: r, n, rows, none, hr, hl, hp => by
    have e : ladA (w :: r) n rows none = if w = Str.ofString "book" then ladA r (n + 1) rows (some (true, [])) else if rows = [] ∨ w ≠ Str.ofString "cut" then .inl n else ladA r (n + 1) rows (some (false, [])) := rfl
    rw [e]
    have pk : ∀ b, PartOk (some (b, [])) := fun b b' is' e => by cases e; exact ⟨fun _ => by simp, by simp, by simp⟩
    split
    · obtain ⟨h1, h2⟩ := ladA_ok r (n + 1) rows (some (true, [])) hr hl (pk true)
      exact ⟨h1, fun e h => by have := h2 e h; simp only [List.length_cons]; omega⟩
    · split
      · exact ⟨(fun B h => by cases h), (fun e h => by cases h; simp)⟩
      · obtain ⟨h1, h2⟩ := ladA_ok r (n + 1) rows (some (false, [])) hr hl (pk false)
        exact ⟨h1, fun e h => by have := h2 e h; simp only [List.length_cons]; omega⟩
  | w :: r, n, rows, some (b, is), hr, hl, hp => by
    have e : ladA (w :: r) n rows (some (b, is)) = match fullR (b, is) with
      | some d => if rows.length < 199 ∧ w = Str.ofString "/" then ladA r (n + 1) (rows ++ [d]) none else .inl n
      | none => match numIn w (if is.length = 2 then 1 else 0) (if b = true then 15 else if is.length = 2 then 8 else (rows.length : Int) - 1) with
        | none => .inl n
        | some i => ladA r (n + 1) rows (some (b, is ++ [i])) := rfl
    rw [e]
    have bad : (∀ B, (Sum.inl n : Nat ⊕ List D) = .inr B → (∀ c ∈ B, RowN c) ∧ B.length ≤ 200) ∧ ∀ e, (Sum.inl n : Nat ⊕ List D) = .inl e → e ≤ n + (w :: r).length := ⟨(fun B h => by cases h), (fun e h => by cases h; simp)⟩
    cases e1 : fullR (b, is) with
    | some d =>
      dsimp only
      split
      · rename_i hc
        obtain ⟨h1, h2⟩ := ladA_ok r (n + 1) (rows ++ [d]) none (fun x hm => by
          rcases List.mem_append.mp hm with hm | hm
          · exact hr x hm
          · rw [List.mem_singleton.mp hm]; exact full_n hp e1) (by simp; omega) (fun b' is' z => by cases z)
        exact ⟨h1, fun e h => by have := h2 e h; simp only [List.length_cons]; omega⟩
      · exact bad
    | none =>
      dsimp only
      rw [due_eq hp]
      cases e2 : numIn w (dueLo is : Nat) ((dueLo is : Nat) + (dueN b is rows.length : Nat) - 1) with
      | none => exact bad
      | some i =>
        have hd : dueLo is + dueN b is rows.length ≤ 201 := by unfold dueLo dueN; split <;> split <;> (try split) <;> omega
        obtain ⟨q1, q2, -⟩ := (num_iff (by omega) (by omega)).mp e2
        obtain ⟨h1, h2⟩ := ladA_ok r (n + 1) rows (some (b, is ++ [i])) hr hl (hp.snoc e1 (by omega) (by omega))
        exact ⟨h1, fun e h => by have := h2 e h; simp only [List.length_cons]; omega⟩
theorem rowsS_le {rows : List D} (h : ∀ r ∈ rows, RowN r) : (rowsS rows).length ≤ rows.length * 23 := by
  have := joined_len (sep := slS) (b := 20) (ls := rows.map fun r => Txt.join spS (rowW r)) (fun x hx => by
    obtain ⟨d, hd, rfl⟩ := List.mem_map.mp hx
    exact rowS_len (h d hd))
  rw [slS_len, List.length_map] at this
  exact this
theorem compW_nums {gd : GH → Prop} {st : D → GH → (Option R → GH → Prop) → Prop} {Q : List D → GH → Prop} {g : GH} (lo n : Nat) (hg : gd g) (hn : lo + n ≤ 1000)
    (h : ∀ i : Int, 0 ≤ i → i < 1000 → ∀ P : Option R → GH → Prop, P (some (.v (.str (strI i)))) g → st (.int i) g P) (q : Q ((numWs lo n).map .str) g) : compW gd st (rngD (lo : Int) n) [] g Q := by
  refine compW_m (fun (i : Nat) => D.int ((lo : Int) + i)) (fun (i : Nat) => .str (strI ((lo : Int) + i))) hg (fun i hi P hP => ?_) (by rw [szl, List.length_range]; omega) ?_
  · have := List.mem_range.mp hi
    exact h _ (by omega) (by omega) P hP
  · have e : (List.range n).map (fun (i : Nat) => D.str (strI ((lo : Int) + i))) = (numWs lo n).map .str := by
      unfold numWs
      rw [List.map_map]; rfl
    rw [e]
    exact q
theorem head_eq {b : Bool} {g' : GH} {Q' : QK} (hq : Q' (.v (.bl b)) g') : fEq false (R.v (.str (if b then bkW else ctW))) (R.v (D.str (Str.ofString "book"))) g' Q' := by
  cases b with
  | true => exact feqS (d := .str bkW) rfl rfl (by decide +kernel) hq
  | false => exact feqF (d := .str ctW) (e := .str bkW) rfl rfl (by decide +kernel) (by decide +kernel) (by decide +kernel) hq
theorem okD_part {b : Bool} {is : List Int} : okD 64 (.lst (.str (if b then bkW else ctW) :: is.map .int)) = true := by
  rw [okD]
  show (okD 63 (.str (if b then bkW else ctW)) && okDs 63 (is.map .int)) = true
  rw [okDs_intsN]
  cases b <;> decide +kernel
def n_law_e_ladder_read : List Str := ["text", "words", "rows", "part", "at", "word", "here", "known", "number"]
def b_law_e_ladder_read_25 : Sl := .cons (.ret (.bin .addL (.var 2) (.lst (.cons (.blf .tuple (.cons (.var 3) (.nil))) (.nil))))) (.nil)
def b_law_e_ladder_read_23 : Sl := .cons (.ifs (.or (.cmp .eqD (.var 3) (.lst (.nil))) (.cmp .neI (.blf .len (.cons (.var 3) (.nil))) (.bin .subI (.cst (.int 4)) (.bin .mulI (.cst (.int 2)) (.blf .intB (.cons (.cmp .eqD (.idx .l (.var 3) (.cst (.int 0))) (.cst (.str "book"))) (.nil))))))) (.cons (.ret (.blf .len (.cons (.var 1) (.nil)))) (.nil)) (.nil)) (.part b_law_e_ladder_read_25)
def b_law_e_ladder_read_19 : Sl := .cons (.expr (.mth .append (.var 2) (.cons (.blf .tuple (.cons (.var 3) (.nil))) (.nil)))) (.cons (.asg (.nm 3) (.trk (.lst (.nil)))) (.nil))
def b_law_e_ladder_read_22 : Sl := .cons (.expr (.mth .append (.var 3) (.cons (.ite (.cmp .eqI (.var 6) (.cst (.int 0))) (.var 5) (.blf .intS (.cons (.var 5) (.nil)))) (.nil)))) (.nil)
def b_law_e_ladder_read_18 : Sl := .cons (.ifs (.cmp .eqS (.var 5) (.cst (.str "/"))) (.part b_law_e_ladder_read_19) (.part b_law_e_ladder_read_22)) (.nil)
def b_law_e_ladder_read_16 : Sl := .cons (.ifs (.cmp .ninS (.var 5) (.var 7)) (.cons (.ret (.var 4)) (.nil)) (.nil)) (.part b_law_e_ladder_read_18)
def b_law_e_ladder_read_7 : Sl := .cons (.asg (.nm 7) (.slc .l (.lst (.cons (.cst (.str "book")) (.cons (.cst (.str "cut")) (.nil)))) (.no) (.so (.bin .addI (.cst (.int 1)) (.blf .intB (.cons (.cmp .neD (.var 2) (.lst (.nil))) (.nil))))))) (.nil)
def b_law_e_ladder_read_9 : Sl := .cons (.asg (.nm 7) (.slc .l (.lst (.cons (.cst (.str "/")) (.nil))) (.no) (.so (.blf .intB (.cons (.cmp .ltI (.blf .len (.cons (.var 2) (.nil))) (.cst (.int 199))) (.nil)))))) (.nil)
def b_law_e_ladder_read_11 : Sl := .cons (.asg (.nm 7) (.comp [("number", 8)] (.rng1 (.cons (.cst (.int 16)) (.nil))) (.nm 8) (.no) (.blf .strI (.cons (.var 8) (.nil))))) (.nil)
def b_law_e_ladder_read_13 : Sl := .cons (.asg (.nm 7) (.comp [("number", 8)] (.rng2 (.cons (.cst (.int 1)) (.cons (.cst (.int 9)) (.nil)))) (.nm 8) (.no) (.blf .strI (.cons (.var 8) (.nil))))) (.nil)
def b_law_e_ladder_read_15 : Sl := .cons (.asg (.nm 7) (.comp [("number", 8)] (.rng1 (.cons (.blf .len (.cons (.var 2) (.nil))) (.nil))) (.nm 8) (.no) (.blf .strI (.cons (.var 8) (.nil))))) (.nil)
def b_law_e_ladder_read_10 : Sl := .cons (.ifs (.cmp .eqD (.idx .l (.var 3) (.cst (.int 0))) (.cst (.str "book"))) (.part b_law_e_ladder_read_11) (.cons (.ifs (.cmp .eqI (.var 6) (.cst (.int 3))) (.part b_law_e_ladder_read_13) (.part b_law_e_ladder_read_15)) (.nil))) (.nil)
def b_law_e_ladder_read_8 : Sl := .cons (.ifs (.or (.cmp .eqI (.var 6) (.cst (.int 4))) (.and (.cmp .eqI (.var 6) (.cst (.int 2))) (.cmp .eqD (.idx .l (.var 3) (.cst (.int 0))) (.cst (.str "book"))))) (.part b_law_e_ladder_read_9) (.part b_law_e_ladder_read_10)) (.nil)
def b_law_e_ladder_read_5 : Sl := .cons (.asg (.nm 6) (.blf .len (.cons (.var 3) (.nil)))) (.cons (.ifs (.cmp .eqI (.var 6) (.cst (.int 0))) (.part b_law_e_ladder_read_7) (.part b_law_e_ladder_read_8)) (.part b_law_e_ladder_read_16))
def b_law_e_ladder_read : Sl := .cons (.asg (.nm 1) (.mth .split (.var 0) (.cons (.cst (.str " ")) (.nil)))) (.cons (.asg (.nm 2) (.trk (.lst (.nil)))) (.cons (.asg (.nm 3) (.trk (.lst (.nil)))) (.cons (.for_ (.enumL (.cons (.var 1) (.nil))) (.tp [4, 5]) (.part b_law_e_ladder_read_5)) (.part b_law_e_ladder_read_23))))
def sp_law_e_ladder_read : GSp := fun ds g Q _ => ∃ (t : Str), ds = [.str t] ∧ t.length ≤ 90000 ∧ Asc t ∧ (∀ R, ladA (Txt.split t spS) 0 [] none = .inr R → Q (.tl R) g) ∧ (∀ n, ladA (Txt.split t spS) 0 [] none = .inl n → Q (.v (.int (n : Nat))) g)
theorem w_law_e_ladder_read : ∀ ds g Q W, sp_law_e_ladder_read ds g Q W → wSs b_law_e_ladder_read (bodyEnds g Q W) (startD 9 ds) g := by
  rintro ds g Q W ⟨t, rfl, hl, hta, h, hw⟩
  change wSs _ _ [some _, none, none, none, none, none, none, none, none] g
  obtain ⟨s1, s2, s3⟩ := split_ok t
  have hasc := hta.split
  walk_at "stp"; walk_at "wx"
  refine ⟨by decide +kernel, by omega, ?_⟩
  intro q hq r hr
  have qr : q ≠ r := fun e => by rw [← e, gup_same] at hr; cases hr
  have gr : g r = none := by rw [gup_ne qr.symm] at hr; exact hr
  change forW _ _ _ _ (enumD 0 (List.map D.str (Txt.split t spS))) [some (D.str t), some (D.lst (List.map D.str (Txt.split t spS))), some (D.ref q), some (D.ref r), none, none, none, none, none] _
  have eE : Txt.split t (Str.ofString " ") = Txt.split t spS := rfl
  rw [eE]
  generalize Txt.split t spS = ws at *
  refine forW_enum D.str (fun k ρ g' => ∃ (rows : List D) (p : PartR) (r : Addr) (x4 x5 x6 x7 x8 : Option D), rows.length ≤ 199 ∧ (∀ d ∈ rows, RowN d) ∧ PartOk p ∧ k ≤ ws.length ∧ (∀ b o, g b = some o → g' b = some o) ∧ q ≠ r ∧ g r = none ∧ g' q = some (.lst rows) ∧ g' r = some (.lst (partD p)) ∧
      ladA ws 0 [] none = ladA (ws.drop k) k rows p ∧ ρ = [some (D.str t), some (D.lst (ws.map D.str)), some (.ref q), some (.ref r), x4, x5, x6, x7, x8]) ?_ (fun _ _ _ _ => trivial) ?_ ?_
  · exact ⟨[], none, r, _, _, _, _, _, by decide, (by simp), (fun b is e => by cases e), Nat.zero_le _, gle_set (gle_set gle_rfl hq) gr, qr, gr, by rw [gup_ne qr]; exact gup_same, gup_same, rfl, rfl⟩
  · rintro k w hk ρ g' ⟨rows, p, r, x4, x5, x6, x7, x8, hrl, hrn, hp, hkl, hg, qr, gr, gq, gpr, hA, rfl⟩ N hN
    have hki := (List.getElem?_eq_some_iff.mp hk).1
    have hwm := List.mem_of_getElem? hk
    have hwa := asc_strOk (hasc w hwm)
    rw [drop_at hk] at hA
    walk_at "wx"
    walk_at "stp"; walk_at "wx"
    refine ⟨_, gpr, ?_⟩
    have s16 : ∀ (KW : List Str) (y6 : Int) (y8 : Option D), (∀ x ∈ KW, PyData.strOk x = true) → (w ∉ KW → ladA ws 0 [] none = .inl k) → (w ∈ KW → wHid (wSs b_law_e_ladder_read_18) { nx := N, rt := RetOk g Q, ct := N, ex := XRet W } [some (D.str t), some (D.lst (ws.map D.str)), some (.ref q), some (.ref r), some (.int (k : Nat)), some (.str w), some (.int y6), some (.lst (KW.map .str)), y8] g') →
        wHid (wSs b_law_e_ladder_read_16) { nx := N, rt := RetOk g Q, ct := N, ex := XRet W } [some (D.str t), some (D.lst (ws.map D.str)), some (.ref q), some (.ref r), some (.int (k : Nat)), some (.str w), some (.int y6), some (.lst (KW.map .str)), y8] g' := by
      intro KW y6 y8 hk1 h1 h2
      walk_at "stp"; walk_at "wx"
      refine fIn_strs rfl hwa hk1 ?_
      by_cases c : w ∈ KW
      · rw [List.contains_iff_mem.mpr c]
        walk_at "wx"
        exact h2 c
      · rw [show KW.contains w = false from Bool.eq_false_iff.mpr fun z => c (List.contains_iff_mem.mp z)]
        walk_at "wx"
        exact .less hg (hw k (h1 c))
    cases p with
    | none =>
      have hA : _ = (if w = Str.ofString "book" then ladA (ws.drop (k + 1)) (k + 1) rows (some (true, [])) else if rows = [] ∨ w ≠ Str.ofString "cut" then .inl k else ladA (ws.drop (k + 1)) (k + 1) rows (some (false, []))) := hA
      rw [if_pos (by rfl)]
      have s18 : ∀ (y7 y8 : Option D) (b : Bool), w = (if b then bkW else ctW) → ladA ws 0 [] none = ladA (ws.drop (k + 1)) (k + 1) rows (some (b, [])) → wHid (wSs b_law_e_ladder_read_18) { nx := N, rt := RetOk g Q, ct := N, ex := XRet W } [some (D.str t), some (D.lst (ws.map D.str)), some (.ref q), some (.ref r), some (.int (k : Nat)), some (.str w), some (.int 0), y7, y8] g' := by
        intro y7 y8 b ew eA
        walk_at "stp"; walk_at "wx"
        rw [if_neg (by rw [ew]; cases b <;> decide +kernel)]
        walk_at "stp"; walk_at "wx"
        refine ⟨⟨_, gpr⟩, _, gpr, by simp [partD], ?_⟩
        exact hN _ _ ⟨rows, some (b, []), r, _, _, _, _, _, hrl, hrn, (fun b' is' e => by cases e; exact ⟨fun _ => by simp, by simp, by simp⟩), hki, gle_set hg gr, qr, gr, by rw [gup_ne qr]; exact gq, by rw [gup_same, ew]; rfl, eA, rfl⟩
      have okr : okD 64 (.lst rows) = true := by
        rw [okD]
        exact (Sxs.alls (n := 63) (w := 564) fun r hr => (hrn r hr).sx.up (by decide) (Nat.le_refl _)).1
      have okw : ∀ x ∈ [bkW, ctW], PyData.strOk x = true := by
        intro x hx
        simp only [List.mem_cons, List.not_mem_nil, or_false] at hx
        rcases hx with rfl | rfl <;> decide +kernel
      walk_at "stp"; walk_at "wx"
      by_cases cr : rows = []
      · refine feqT (d := .lst []) (e := .lst []) (by rw [← cr]; exact resR_ref gq) rfl (by decide) (by decide) rfl ?_
        refine s16 [bkW] 0 x8 (fun x hx => okw x (by simp at hx; simp [hx])) (fun hn => ?_) (fun hy => ?_)
        · have hn' : ¬ w = Str.ofString "book" := fun e => hn (by rw [e]; exact List.mem_singleton.mpr rfl)
          rw [hA, if_neg hn', if_pos (.inl cr)]
        · have e : w = bkW := List.mem_singleton.mp hy
          refine s18 _ _ true e ?_
          rw [hA, if_pos (show w = Str.ofString "book" from e)]
      · refine feqF (d := .lst rows) (e := .lst []) (resR_ref gq) rfl okr (by decide) (by cases rows with | nil => exact absurd rfl cr | cons _ _ => rfl) ?_
        refine s16 [bkW, ctW] 0 x8 okw (fun hn => ?_) (fun hy => ?_)
        · have hn1 : ¬ w = Str.ofString "book" := fun e => hn (by rw [e]; exact List.mem_cons_self ..)
          have hn2 : ¬ w = Str.ofString "cut" := fun e => hn (by rw [e]; exact List.mem_cons_of_mem _ (List.mem_singleton.mpr rfl))
          rw [hA, if_neg hn1, if_pos (.inr hn2)]
        · by_cases c1 : w = Str.ofString "book"
          · refine s18 _ _ true c1 ?_
            rw [hA, if_pos c1]
          · have c2 : w = ctW := by
              rcases List.mem_cons.mp hy with e | e
              · exact absurd e c1
              · exact List.mem_singleton.mp e
            refine s18 _ _ false c2 ?_
            rw [hA, if_neg c1, if_neg (by rintro (z | z); exact cr z; exact z c2)]
    | some p =>
      obtain ⟨b, is⟩ := p
      have hA : _ = (match fullR (b, is) with
        | some d => if rows.length < 199 ∧ w = Str.ofString "/" then ladA (ws.drop (k + 1)) (k + 1) (rows ++ [d]) none else .inl k
        | none => match numIn w (if is.length = 2 then 1 else 0) (if b = true then 15 else if is.length = 2 then 8 else (rows.length : Int) - 1) with
          | none => .inl k
          | some i => ladA (ws.drop (k + 1)) (k + 1) rows (some (b, is ++ [i]))) := hA
      rw [if_neg (by show ¬ (((is.map D.int).length + 1 : Nat) : Int) = 0; omega)]
      have elen : (partD (some (b, is))).length = is.length + 1 := by show (is.map D.int).length + 1 = _; rw [List.length_map]
      have gpr' : g' r = some (.lst (.str (if b then bkW else ctW) :: is.map .int)) := gpr
      obtain ⟨p1, p2, p3⟩ := hp b is rfl
      rw [elen]
      cases e1 : fullR (b, is) with
      | some d =>
        have hlen := (full_iff hp).mp ⟨d, e1⟩
        rw [e1] at hA
        dsimp only at hA
        have s9 : wHid (wSs b_law_e_ladder_read_9) { nx := fun ρ' g' => wHid (wSs b_law_e_ladder_read_16) { nx := N, rt := RetOk g Q, ct := N, ex := XRet W } ρ' g', rt := RetOk g Q, ct := N, ex := XRet W }
            [some (D.str t), some (D.lst (ws.map D.str)), some (.ref q), some (.ref r), some (.int (k : Nat)), some (.str w), some (.int ((is.length + 1 : Nat) : Int)), x7, x8] g' := by
          walk_at "stp"; walk_at "wx"
          refine ⟨rows, gq, ?_⟩
          by_cases c9 : rows.length < 199
          · rw [if_pos (by omega)]
            refine s16 [slW] _ x8 (by intro x hx; rw [List.mem_singleton.mp hx]; decide +kernel) (fun hn => ?_) (fun hy => ?_)
            · rw [hA, if_neg (fun z => hn (by rw [z.2]; exact List.mem_singleton.mpr rfl))]
            · have ew : w = Str.ofString "/" := List.mem_singleton.mp hy
              rw [if_pos ⟨c9, ew⟩] at hA
              walk_at "stp"; walk_at "wx"
              rw [if_pos ew]
              walk_at "stp"; walk_at "wx"
              refine ⟨⟨_, gq⟩, _, gpr', _, gq, by omega, fun r2 hr2 => ?_⟩
              have gr2 : g r2 = none := by
                cases z : g r2 with
                | none => rfl
                | some u => rw [gle_set hg hq r2 u z] at hr2; cases hr2
              have qr2 : q ≠ r2 := fun e => by rw [← e, gup_same] at hr2; cases hr2
              have ed : D.tup (.str (if b then bkW else ctW) :: is.map .int) = d := (full_tup e1).symm
              rw [ed]
              exact hN _ _ ⟨rows ++ [d], none, r2, _, _, _, _, _, by simp; omega, (fun x hm => by
                rcases List.mem_append.mp hm with hm | hm
                · exact hrn x hm
                · rw [List.mem_singleton.mp hm]; exact full_n hp e1), (fun b' is' z => by cases z), hki, gle_set (gle_set hg hq) gr2, qr2, gr2, by rw [gup_ne qr2]; exact gup_same, gup_same, hA, rfl⟩
          · rw [if_neg (by omega)]
            refine s16 [] _ x8 (by simp) (fun hn => ?_) (fun hy => absurd hy (by simp))
            rw [hA, if_neg (fun z => c9 z.1)]
        walk_at "stp"; walk_at "wx"
        cases b with
        | true =>
          have hlen : is.length = 1 := hlen
          rw [if_neg (by omega), if_pos (by omega)]
          refine ⟨_, _, gpr', atI_0, head_eq ?_⟩
          walk_at "wx"
          exact s9
        | false =>
          have hlen : is.length = 3 := hlen
          rw [if_pos (by omega)]
          exact s9
      | none =>
        rw [e1] at hA
        dsimp only at hA
        rw [due_eq hp] at hA
        have s10 : wHid (wSs b_law_e_ladder_read_10) { nx := fun ρ' g' => wHid (wSs b_law_e_ladder_read_16) { nx := N, rt := RetOk g Q, ct := N, ex := XRet W } ρ' g', rt := RetOk g Q, ct := N, ex := XRet W }
            [some (D.str t), some (D.lst (ws.map D.str)), some (.ref q), some (.ref r), some (.int (k : Nat)), some (.str w), some (.int ((is.length + 1 : Nat) : Int)), x7, x8] g' := by
          have s18 : ∀ (y7 y8 : Option D) (i : Int), 0 ≤ i → i < 1000 → w = strI i → ladA ws 0 [] none = ladA (ws.drop (k + 1)) (k + 1) rows (some (b, is ++ [i])) → wHid (wSs b_law_e_ladder_read_18) { nx := N, rt := RetOk g Q, ct := N, ex := XRet W } [some (D.str t), some (D.lst (ws.map D.str)), some (.ref q), some (.ref r), some (.int (k : Nat)), some (.str w), some (.int ((is.length + 1 : Nat) : Int)), y7, y8] g' := by
            intro y7 y8 i i0 i1 ew eA
            walk_at "stp"; walk_at "wx"
            rw [if_neg (by rw [ew]; exact strI_sl' i0 i1)]
            walk_at "stp"; walk_at "wx"
            refine ⟨⟨_, gpr'⟩, ?_⟩
            rw [if_neg (by omega)]
            refine ⟨i, by rw [ew]; exact int_num' i0 i1, by rw [ew]; exact Nat.le_trans (strI_lenN i0 i1) (by decide), _, gpr', by rw [List.length_cons, List.length_map]; omega, ?_⟩
            exact hN _ _ ⟨rows, some (b, is ++ [i]), r, _, _, _, _, _, hrl, hrn, hp.snoc e1 i0 i1, hki, gle_set hg gr, qr, gr, by rw [gup_ne qr]; exact gq, by rw [gup_same]; show some (DO.lst _) = some (DO.lst (_ :: (is ++ [i]).map D.int)); rw [List.map_append]; rfl, eA, rfl⟩
          have hd : dueLo is + dueN b is rows.length ≤ 201 := by unfold dueLo dueN; split <;> split <;> (try split) <;> omega
          have sN : ∀ (lo n : Nat), lo = dueLo is → n = dueN b is rows.length → ∀ y8 : Option D, wHid (wSs b_law_e_ladder_read_16) { nx := N, rt := RetOk g Q, ct := N, ex := XRet W } [some (D.str t), some (D.lst (ws.map D.str)), some (.ref q), some (.ref r), some (.int (k : Nat)), some (.str w), some (.int ((is.length + 1 : Nat) : Int)), some (.lst ((numWs lo n).map .str)), y8] g' := by
            intro lo n el en y8
            subst el
            subst en
            refine s16 _ _ y8 (numWs_ok (by omega)) (fun hn => ?_) (fun hy => ?_)
            · cases e : numIn w (dueLo is : Nat) ((dueLo is : Nat) + (dueN b is rows.length : Nat) - 1) with
              | none => rw [e] at hA; exact hA
              | some i => exact absurd ((numWs_iff (by omega)).mpr ⟨i, e⟩) hn
            · obtain ⟨i, hi⟩ := (numWs_iff (by omega)).mp hy
              obtain ⟨q1, q2, q3⟩ := (num_iff (by omega) (by omega)).mp hi
              rw [hi] at hA
              exact s18 _ _ i (by omega) (by omega) q3 hA
          walk_at "stp"; walk_at "wx"
          refine ⟨_, _, gpr', atI_0, head_eq ?_⟩
          walk_at "wx"
          cases b with
          | true =>
            walk_at "wx"
            walk_at "stp"; walk_at "wx"
            have hlen : is.length ≤ 1 := p1 rfl
            have c2 : ¬ is.length = 2 := by omega
            refine ⟨by decide, by decide, ?_⟩
            refine compW_nums 0 16 trivial (by decide) (fun i i0 i1 P hP => ?_) (sN 0 16 (by unfold dueLo; rw [if_neg c2]) (by unfold dueN; rw [if_pos rfl]) _)
            walk_at "wx"
            exact ⟨log_ok (by omega), hP⟩
          | false =>
            walk_at "wx"
            by_cases c3 : is.length = 2
            · rw [if_pos (by omega)]
              walk_at "stp"; walk_at "wx"
              refine ⟨by decide, ?_⟩
              refine compW_nums 1 8 trivial (by decide) (fun i i0 i1 P hP => ?_) (sN 1 8 (by unfold dueLo; rw [if_pos c3]) (by unfold dueN; rw [if_neg (by decide), if_pos c3]) _)
              walk_at "wx"
              exact ⟨log_ok (by omega), hP⟩
            · rw [if_neg (by omega)]
              walk_at "stp"; walk_at "wx"
              refine ⟨rows, gq, by omega, by omega, ?_⟩
              refine compW_nums 0 rows.length trivial (by omega) (fun i i0 i1 P hP => ?_) (sN 0 rows.length (by unfold dueLo; rw [if_neg c3]) (by unfold dueN; rw [if_neg (by decide), if_neg c3]) _)
              walk_at "wx"
              exact ⟨log_ok (by omega), hP⟩
        walk_at "stp"; walk_at "wx"
        cases b with
        | true =>
          have hlen : is.length ≤ 1 := p1 rfl
          have hlen2 : is.length ≠ 1 := fun e => by
            obtain ⟨d, hd⟩ := (full_iff hp).mpr e
            rw [e1] at hd; cases hd
          rw [if_neg (by omega), if_neg (by omega)]
          exact s10
        | false =>
          have hlen2 : is.length ≠ 3 := fun e => by
            obtain ⟨d, hd⟩ := (full_iff hp).mpr e
            rw [e1] at hd; cases hd
          rw [if_neg (by omega)]
          by_cases c2 : is.length = 1
          · rw [if_pos (by omega)]
            refine ⟨_, _, gpr', atI_0, head_eq ?_⟩
            walk_at "wx"
            exact s10
          · rw [if_neg (by omega)]
            exact s10
  · rintro ρ g' ⟨rows, p, r, x4, x5, x6, x7, x8, hrl, hrn, hp, hkl, hg, qr, gr, gq, gpr, hA, rfl⟩
    rw [List.drop_of_length_le (Nat.le_refl _)] at hA
    walk_at "stp"; walk_at "wx"
    cases p with
    | none =>
      have hA : _ = Sum.inl ws.length := hA
      refine feqT (d := .lst []) (e := .lst []) (resR_ref gpr) rfl (by decide) (by decide) rfl ?_
      walk_at "wx"
      exact .less hg (hw _ hA)
    | some p =>
      obtain ⟨b, is⟩ := p
      have hA : _ = (match fullR (b, is) with | some d => Sum.inr (rows ++ [d]) | none => Sum.inl ws.length) := hA
      have gpr' : g' r = some (.lst (.str (if b then bkW else ctW) :: is.map .int)) := gpr
      refine feqF (d := .lst (.str (if b then bkW else ctW) :: is.map .int)) (e := .lst []) (resR_ref gpr') rfl okD_part (by decide) rfl ?_
      walk_at "wx"
      refine ⟨_, gpr', _, _, gpr', atI_0, head_eq ?_⟩
      rw [List.length_cons, List.length_map]
      show CMul 2 (if b = true then 1 else 0) ∧ if (!decide (((is.length + 1 : Nat) : Int) = 4 - 2 * if b = true then 1 else 0)) = true then RetOk g Q (R.v (D.int (ws.length : Nat))) g' else _
      refine ⟨.inl ⟨by decide, by decide⟩, ?_⟩
      have elen : (((is.length + 1 : Nat) : Int) = 4 - 2 * if b = true then 1 else 0) ↔ is.length = (if b then 1 else 3) := by
        cases b with
        | true => simp; omega
        | false => simp; omega
      cases e1 : fullR (b, is) with
      | some d =>
        have hlen := elen.mpr ((full_iff hp).mp ⟨d, e1⟩)
        rw [decide_eq_true hlen, if_neg (by simp)]
        rw [e1] at hA
        walk_at "stp"; walk_at "wx"
        refine ⟨_, gpr', _, _, gq, rfl, by simp; omega, ?_⟩
        have ed : D.tup (.str (if b then bkW else ctW) :: is.map .int) = d := (full_tup e1).symm
        rw [ed]
        exact .less hg (h _ hA)
      | none =>
        have hlen : ¬ (((is.length + 1 : Nat) : Int) = 4 - 2 * if b = true then 1 else 0) := fun z => by
          obtain ⟨d, hd⟩ := (full_iff hp).mpr (elen.mp z)
          rw [e1] at hd; cases hd
        rw [decide_eq_false hlen, if_pos (by simp)]
        rw [e1] at hA
        exact .less hg (hw _ hA)
/-- k82's text has this refusal alone -/
def exW : List Str := ["NoText"]
def n_law_e_told : List Str := ["text", "found", "e"]
def b_law_e_told_3 : Sl := .cons (.asg (.nm 1) (.tup (.cons (.cst (.str "told")) (.cons (.call "read_ladder" sp_read_ladder (.cons (.var 0) (.nil))) (.nil))))) (.nil)
def b_law_e_told_5 : Sl := .cons (.asg (.nm 1) (.tup (.cons (.cst (.str "refused")) (.cons (.atf exW (.var 2)) (.nil))))) (.nil)
def b_law_e_told : Sl := .cons (.asg (.nm 1) (.tup (.cons (.cst (.str "odd")) (.cons (.cst (.int 0)) (.nil))))) (.cons (.try_ exW "NoText" (some 2) (.part b_law_e_told_3) (.part b_law_e_told_5)) (.cons (.ret (.var 1)) (.nil)))
def sp_law_e_told : GSp := fun ds g Q _ => ∃ (t : Str), ds = [.str t] ∧ t.length ≤ 90000 ∧ (∀ B, ladA (Txt.split t spS) 0 [] none = .inr B → Q (.v (.tup [.str (Str.ofString "told"), .lst B])) g) ∧ (∀ n, ladA (Txt.split t spS) 0 [] none = .inl n → Q (.v (.tup [.str (Str.ofString "refused"), .int (n : Nat)])) g)
theorem w_law_e_told : ∀ ds g Q W, sp_law_e_told ds g Q W → wSs b_law_e_told (bodyEnds g Q W) (startD 3 ds) g := by
  rintro ds g Q W ⟨t, rfl, hl, h, hw⟩
  change wSs _ _ [some _, none, none] g
  walk_at "stp"; walk_at "wx"
  walk_at "stp"; walk_at "wx"
  refine ⟨t, rfl, hl, fun B hB => ?_, fun n hn => ?_⟩
  · exact .same (h B hB)
  · refine ⟨show Str.ofString "NoText" ∈ exW by decide +kernel, fun _ => ?_, fun e => absurd e (show ¬ exSub (Str.ofString "NoText") (Str.ofString "NoText") = false by decide +kernel)⟩
    walk_at "stp"; walk_at "wx"
    exact ⟨by decide +kernel, .same (hw n hn)⟩
def n_law_e_right : List Str := ["text", "due"]
def b_law_e_right_2 : Sl := .cons (.ret (.cmp .eqS (.blf .repr (.cons (.call "_law_e_told" sp_law_e_told (.cons (.var 0) (.nil))) (.nil))) (.blf .repr (.cons (.tup (.cons (.idx .l (.lst (.cons (.cst (.str "told")) (.cons (.cst (.str "refused")) (.nil)))) (.blf .intB (.cons (.blf (.isi "int") (.cons (.var 1) (.cons (.blt "int" "int") (.nil)))) (.nil)))) (.cons (.var 1) (.nil)))) (.nil))))) (.nil)
def b_law_e_right : Sl := .cons (.asg (.nm 1) (.call "_law_e_ladder_read" sp_law_e_ladder_read (.cons (.var 0) (.nil)))) (.part b_law_e_right_2)
def sp_law_e_right : GSp := fun ds g Q _ => ∃ (t : Str), ds = [.str t] ∧ t.length ≤ 90000 ∧ Asc t ∧ Q (.v (.bl true)) g
theorem w_law_e_right : ∀ ds g Q W, sp_law_e_right ds g Q W → wSs b_law_e_right (bodyEnds g Q W) (startD 2 ds) g := by
  rintro ds g Q W ⟨t, rfl, hl, hta, h⟩
  change wSs _ _ [some _, none] g
  obtain ⟨s1, s2, s3⟩ := split_ok t
  obtain ⟨g1, g2⟩ := ladA_ok (Txt.split t spS) 0 [] none (by simp) (by decide) (fun b is e => by cases e)
  walk_at "stp"; walk_at "wx"
  refine ⟨t, rfl, hl, hta, fun B hB => ?_, fun n hn => ?_⟩
  · walk_at "wx"
    walk_at "stp"; walk_at "wx"
    obtain ⟨k1, k2⟩ := g1 B hB
    have sxb : Sx 2 (200 * 565) (.lst B) := Sx.up (Sxs.lst (n := 1) (w := 564) (fun d hd => (k1 d hd).sx) (Nat.le_refl _)) (by decide) (Nat.mul_le_mul_right _ k2)
    have sxt : Sx 3 230000 (.tup [.str (Str.ofString "told"), .lst B]) := Sx.up (n := 3) (w := 2 * 113001) (Sxs.tup (n := 2) (w := 113000) (fun d hd => by
      simp only [List.mem_cons, List.not_mem_nil, or_false] at hd
      rcases hd with rfl | rfl
      · exact Sx.str (by decide +kernel) (Nat.le_trans (by decide +kernel : (Str.ofString "told").length ≤ 4) (by decide))
      · exact sxb) (Nat.le_refl _)) (by decide) (by decide)
    refine ⟨t, rfl, hl, fun B' hB' => ?_, fun n hn => by rw [hB] at hn; cases hn⟩
    rw [hB] at hB'
    cases hB'
    refine ⟨_, rfl, sxt.three (by decide) (by decide) ⟨by decide, "list", rfl, ?_⟩⟩
    rw [if_neg (by decide)]
    refine ⟨_, atI_0, _, rfl, sxt.three (by decide) (by decide) ?_⟩
    simp only [R.fz_v, decide_true]
    exact .same h
  · walk_at "wx"
    walk_at "stp"; walk_at "wx"
    have hn9 := g2 n hn
    have sxt : Sx 3 80000 (.tup [.str (Str.ofString "refused"), .int (n : Nat)]) := Sx.up (n := 3) (w := 2 * 141) (Sxs.tup (n := 2) (w := 140) (fun d hd => by
      simp only [List.mem_cons, List.not_mem_nil, or_false] at hd
      rcases hd with rfl | rfl
      · exact Sx.str (by decide +kernel) (Nat.le_trans (by decide +kernel : (Str.ofString "refused").length ≤ 7) (by decide))
      · exact Sx.int (by omega)) (Nat.le_refl _)) (by decide) (by decide)
    refine ⟨t, rfl, hl, (fun B' hB' => by rw [hn] at hB'; cases hB'), fun n' hn' => ?_⟩
    rw [hn] at hn'
    cases hn'
    refine ⟨_, rfl, sxt.three (by decide) (by decide) ⟨by decide, "int", rfl, ?_⟩⟩
    rw [if_pos (by decide)]
    refine ⟨_, atI_1, _, rfl, sxt.three (by decide) (by decide) ?_⟩
    simp only [R.fz_v, decide_true]
    exact .same h
end G3

/-! L82: law_k82_no_ladders_texts -/
namespace G3
open PySem L2
local macro_rules | `(tactic| walk_at "wp") => `(tactic| simp only [wSs, wS, wE, wL, wO, wSq, wRet, wRetN, wAsg, wIf, wDrop, wFor, wPut, wNx, wArgs, wCons, wNil, wCall, wComp, wI, wB, wSeqT, wSeqL, wRng1, wRng2, wEnumL, wEnumT, wVar, wC, wBin, wUn, wNot, wAnd, wOr, wIte, wTest, wTrk, wSlc, wNoPart, wPart, fMt, List.getElem?_cons_succ, List.getElem?_cons_zero, tupOf, lstOf, gdOf, ex_eq, ex_eq', ex2_eq, ex2_eq', Bfn.f, Mth.f, compT, tgB, setAll, wipeD, wYes, List.map_cons, List.map_nil, List.set_cons_succ, List.set_cons_zero, List.length_cons, List.length_nil, Bop.f, Cop.f, Iop.f, fI2, fS2, fIx, fNeg, true_and, and_true, if_true, bodyEnds, R.fz_v, R.fz_tl, atI_0, atI_1, atI_2, atI_3, Option.some.injEq, DO.lst.injEq, decide_eq_true_eq, gup_same, gup_gup, or_false, ixN_s0, ixN_s1, ixN_s2, List.length_set, List.length_map, szl, Nat.reduceAdd, Nat.zero_add, Nat.reduceLeDiff, Nat.zero_le, Int.reduceLE, exists_eq', false_or, fAddT, fAddL, fSl, rolOf, Bool.not_true, Bool.not_false, Bool.false_eq_true, if_false, Bool.false_xor, Bool.xor_true, beq_self_eq_true, isiB_bb, isiB_ll, decide_true, isiB_tt, fIsN, isNon, wTry, wCallv, wRaise, setO, gonO, tryEnds, wMk, wMkAt, wAt, wRaiseAt, isKd, Mth.kd, eq_self, wDis, wDnK, wDnT, wDput, wPar, wRngD, wFld, wMeth, wNew, wSfld, wCh3, wPar3, wRevL, wDputM, wText, fInT, wIng, wSfld2, wDead])
local macro_rules | `(tactic| walk_at "stp") => `(tactic| first | (rw [wHid_eq]; conv in (wSs _) => arg 1; whnf) | (conv in (wSs _) => arg 1; whnf))
local macro_rules | `(tactic| walk_at "wx") => `(tactic| simp only [wSs, wS, wE, wL, wO, wSq, wRet, wRetN, wAsg, wIf, wDrop, wFor, wPut, wNx, wArgs, wCons, wNil, wCall, wComp, wI, wB, wSeqT, wSeqL, wRng1, wRng2, wEnumL, wEnumT, wVar, wC, wBin, wUn, wNot, wAnd, wOr, wIte, wTest, wTrk, wSlc, wNoPart, wPart, fMt, List.getElem?_cons_succ, List.getElem?_cons_zero, tupOf, lstOf, gdOf, ex_eq, ex_eq', ex2_eq, ex2_eq', Bfn.f, Mth.f, compT, tgB, setAll, wipeD, wYes, List.map_cons, List.map_nil, List.set_cons_succ, List.set_cons_zero, List.length_cons, List.length_nil, Bop.f, Cop.f, Iop.f, fI2, fS2, fIx, fNeg, true_and, and_true, if_true, bodyEnds, R.fz_v, R.fz_tl, atI_0, atI_1, atI_2, atI_3, Option.some.injEq, DO.lst.injEq, decide_eq_true_eq, gup_same, gup_gup, or_false, ixN_s0, ixN_s1, ixN_s2, List.length_set, List.length_map, szl, Nat.reduceAdd, Nat.zero_add, Nat.reduceLeDiff, Nat.zero_le, Int.reduceLE, exists_eq', false_or, fAddT, fAddL, fSl, rolOf, Bool.not_true, Bool.not_false, Bool.false_eq_true, if_false, Bool.false_xor, Bool.xor_true, beq_self_eq_true, isiB_bb, isiB_ll, decide_true, isiB_tt, fIsN, isNon, wTry, wCallv, wRaise, setO, gonO, tryEnds, wMk, wMkAt, wAt, wRaiseAt, isKd, Mth.kd, eq_self, wDis, wDnK, wDnT, wDput, wPar, wRngD, wFld, wMeth, wNew, wSfld, wCh3, wPar3, wRevL, wDputM, wText, fInT, wIng, wSfld2, wDead, eIn_tI, eIn_lI, eEq_tI, eEq_lI, eEq_tl, eEq_tl', eEq_bl, eEq_tN, eEq_lN, fIsE, Ufn.f, fSSet, fLSet, if_true, if_false, Bool.true_xor, Bool.xor_false, seqOf, fIxA, fSlA, fAddA, fInA, wSeqA, wEnumA, isKd, Mth.kd, fB2, okD_int, okD_bl, okDs_intsN, inD_ints, fRepL, fAddS, fIxS, eEq_int, wCh, fLRng, fRevT, fRow2, fTRng, fLSetT])
def menuW : List Str := ["0", "1", "2", "8", "9", "15", "16", "-1", "00", "01", "199", "200", "book", "cut", "/", "", "//", "Book", "+1", "x", "016", "09", "0200"].map Str.ofString
theorem menu_ok : menuW ≠ [] ∧ menuW.length ≤ 100 ∧ menuW.all (fun m => m.cps.all (· < 128) && decide (m.length ≤ 5)) = true := by decide +kernel
def TxtOk (t : Str) : Prop := t.length ≤ 90000 ∧ Asc t
def txts0 : List Str := ["", " ", "/", "book", "book 0", "book 16", "cut 0 0 1", "book 3 / cut 0 0 8", "book 3 / cut 0 1 1", "book 0 /", "book 1 / cut 0 0 9", "book 1 / cut 0 0 0", "book 1 2", "book 15 / book 0 / cut 1 0 1 / cut 2 2 2", "cut 0 0 1 / x", "book 1 2 / cut 0 x 1", "book 16 / x", "book 1 / cut 0 1 1 / cut 0 0"].map Str.ofString
theorem txts0_ok : txts0.all (fun m => m.cps.all (· < 128) && decide (m.length ≤ 100)) = true := by decide +kernel
def n_law : List Str := ["script", "pen", "menu", "texts", "turn", "rows", "text"]
def b_law_13 : Sl := .cons (.ret (.blf .all (.cons (.comp [("text", 6)] (.seqL (.var 3)) (.nm 6) (.no) (.call "_law_e_right" sp_law_e_right (.cons (.var 6) (.nil)))) (.nil)))) (.nil)
def b_law_12 : Sl := .cons (.asg (.nm 3) (.trk (.bin .addL (.var 3) (.lst (.cons (.call "_law_e_rows_text" sp_law_e_rows_text (.cons (.var 5) (.nil))) (.cons (.call "_law_e_spoilt" sp_law_e_spoilt (.cons (.var 1) (.cons (.mth .split (.call "_law_e_rows_text" sp_law_e_rows_text (.cons (.var 5) (.nil))) (.cons (.cst (.str " ")) (.nil))) (.cons (.var 2) (.nil))))) (.nil))))))) (.part b_law_13)
def b_law_11 : Sl := .cons (.asg (.nm 5) (.call "_law_e_drawn_rows" sp_law_e_drawn_rows (.cons (.var 1) (.cons (.bin .addI (.cst (.int 199)) (.call "_law_e_take" sp_law_e_take (.cons (.var 1) (.cons (.cst (.int 3)) (.nil))))) (.nil))))) (.part b_law_12)
def b_law_10 : Sl := .cons (.expr (.mth .append (.var 3) (.cons (.call "_law_e_all_spoilt" sp_law_e_all_spoilt (.cons (.var 1) (.cons (.call "_law_e_rows_text" sp_law_e_rows_text (.cons (.var 5) (.nil))) (.cons (.var 2) (.nil))))) (.nil)))) (.nil)
def b_law_9 : Sl := .cons (.asg (.nm 5) (.call "_law_e_drawn_rows" sp_law_e_drawn_rows (.cons (.var 1) (.cons (.bin .addI (.cst (.int 1)) (.call "_law_e_take" sp_law_e_take (.cons (.var 1) (.cons (.cst (.int 12)) (.nil))))) (.nil))))) (.part b_law_10)
def b_law_8 : Sl := .cons (.for_ (.rng1 (.cons (.cst (.int 10)) (.nil))) (.nm 4) (.part b_law_9)) (.part b_law_11)
def b_law_7 : Sl := .cons (.asg (.nm 3) (.trk (.bin .addL (.var 3) (.lst (.cons (.cst (.str "cut 0 0 1 / x")) (.cons (.cst (.str "book 1 2 / cut 0 x 1")) (.cons (.cst (.str "book 16 / x")) (.cons (.cst (.str "book 1 / cut 0 1 1 / cut 0 0")) (.nil))))))))) (.part b_law_8)
def b_law_6 : Sl := .cons (.asg (.nm 3) (.trk (.bin .addL (.var 3) (.lst (.cons (.cst (.str "book 1 2")) (.cons (.cst (.str "book 15 / book 0 / cut 1 0 1 / cut 2 2 2")) (.nil))))))) (.part b_law_7)
def b_law_5 : Sl := .cons (.asg (.nm 3) (.trk (.bin .addL (.var 3) (.lst (.cons (.cst (.str "book 3 / cut 0 1 1")) (.cons (.cst (.str "book 0 /")) (.cons (.cst (.str "book 1 / cut 0 0 9")) (.cons (.cst (.str "book 1 / cut 0 0 0")) (.nil))))))))) (.part b_law_6)
def b_law_4 : Sl := .cons (.asg (.nm 3) (.trk (.lst (.cons (.cst (.str "")) (.cons (.cst (.str " ")) (.cons (.cst (.str "/")) (.cons (.cst (.str "book")) (.cons (.cst (.str "book 0")) (.cons (.cst (.str "book 16")) (.cons (.cst (.str "cut 0 0 1")) (.cons (.cst (.str "book 3 / cut 0 0 8")) (.nil)))))))))))) (.part b_law_5)
def b_law_3 : Sl := .cons (.asg (.nm 2) (.bin .addL (.var 2) (.lst (.cons (.cst (.str "cut")) (.cons (.cst (.str "/")) (.cons (.cst (.str "")) (.cons (.cst (.str "//")) (.cons (.cst (.str "Book")) (.cons (.cst (.str "+1")) (.cons (.cst (.str "x")) (.cons (.cst (.str "016")) (.cons (.cst (.str "09")) (.cons (.cst (.str "0200")) (.nil)))))))))))))) (.part b_law_4)
def b_law_2 : Sl := .cons (.asg (.nm 2) (.lst (.cons (.cst (.str "0")) (.cons (.cst (.str "1")) (.cons (.cst (.str "2")) (.cons (.cst (.str "8")) (.cons (.cst (.str "9")) (.cons (.cst (.str "15")) (.cons (.cst (.str "16")) (.cons (.cst (.str "-1")) (.cons (.cst (.str "00")) (.cons (.cst (.str "01")) (.cons (.cst (.str "199")) (.cons (.cst (.str "200")) (.cons (.cst (.str "book")) (.nil)))))))))))))))) (.part b_law_3)
def b_law : Sl := .cons (.asg (.nm 1) (.trk (.call "_law_e_pen" sp_law_e_pen (.cons (.var 0) (.nil))))) (.part b_law_2)
def sp_law : GSp := fun ds g Q _ => ∃ ns : List Int, ds = [.rl (ns.map .int)] ∧ ns.length ≤ 63 ∧ ∀ g', Q (.v (.bl true)) g'
theorem w_law : ∀ ds g Q W, sp_law ds g Q W → wSs b_law (bodyEnds g Q W) (startD 7 ds) g := by
  rintro ds g Q W ⟨ns, rfl, hns, h⟩
  change wSs _ _ [some _, none, none, none, none, none, none] g
  obtain ⟨m1, m2, m3⟩ := menu_ok
  have mok : ∀ m ∈ menuW, Asc m ∧ m.length ≤ 5 := fun m hm => by
    have := List.all_eq_true.mp m3 m hm
    rw [Bool.and_eq_true] at this
    exact ⟨asc_of this.1, of_decide_eq_true this.2⟩
  have t0 : ∀ t ∈ txts0, TxtOk t := fun t ht => by
    have := List.all_eq_true.mp txts0_ok t ht
    rw [Bool.and_eq_true] at this
    exact ⟨Nat.le_trans (of_decide_eq_true this.2) (by decide), asc_of this.1⟩
  walk_at "stp"; walk_at "wx"
  refine ⟨ns, rfl, hns, fun cells hcl => ?_⟩
  walk_at "wx"
  intro p hp
  walk_at "stp"; walk_at "wx"
  walk_at "stp"; walk_at "wx"
  change wHid (wSs b_law_4) _ [some (D.rl (ns.map .int)), some (D.ref p), some (D.lst (menuW.map .str)), none, none, none, none] _
  generalize menuW = ms at *
  walk_at "stp"; walk_at "wx"
  intro q1 hq1
  walk_at "stp"; walk_at "wx"
  intro q2 hq2
  walk_at "stp"; walk_at "wx"
  refine ⟨by simp, ?_⟩
  intro q3 hq3
  walk_at "stp"; walk_at "wx"
  refine ⟨by simp, ?_⟩
  intro q hq
  have f1 : p ≠ q1 := fun e => by rw [← e, gup_same] at hq1; cases hq1
  have f2 : p ≠ q2 := fun e => by rw [← e, gup_ne f1, gup_same] at hq2; cases hq2
  have f3 : p ≠ q3 := fun e => by rw [← e, gup_ne f2, gup_ne f1, gup_same] at hq3; cases hq3
  have pq : p ≠ q := fun e => by rw [← e, gup_ne f3, gup_ne f2, gup_ne f1, gup_same] at hq; cases hq
  have Gp : ∀ x y z u v : DO, gup (gup (gup (gup (gup g p x) q1 y) q2 z) q3 u) q v p = some x := fun x y z u v => by rw [gup_ne pq, gup_ne f3, gup_ne f2, gup_ne f1, gup_same]
  have rest : ∀ G : GH, G p = some (.lst [.lst (cells.map .int), .int 0, .int 0]) → G q = some (.lst (txts0.map .str)) → wHid (wSs b_law_8) { nx := fun x g' => RetOk g Q (R.v D.non) g', rt := RetOk g Q, ct := fun _ _ => False, ex := XRet W }
      [some (D.rl (ns.map .int)), some (D.ref p), some (D.lst (ms.map .str)), some (.ref q), none, none, none] G := ?_
  · exact rest _ (Gp _ _ _ _ _) gup_same
  intro G hGp hGq
  walk_at "stp"; walk_at "wx"
  refine ⟨by decide, by decide, ?_⟩
  refine forW_rng (fun k ρ g2 => ∃ (o : DO) (ts : List Str) (x4 x5 : Option D), g2 p = some o ∧ PenO o (20 + 2000 * k) ∧ g2 q = some (.lst (ts.map .str)) ∧ (∀ t ∈ ts, TxtOk t) ∧ ts.length ≤ 18 + k ∧ ρ = [some (.rl (ns.map .int)), some (.ref p), some (.lst (ms.map .str)), some (.ref q), x4, x5, none]) ?_ ?_ ?_
  · exact ⟨_, txts0, _, _, hGp, ⟨cells, 0, 0, rfl, hcl, by omega, by omega, by omega⟩, hGq, t0, by decide, rfl⟩
  · rintro i hi ρ g2 ⟨o, ts, x4, x5, hp2, hf, hq2, hts, htl, rfl⟩ N hN
    have hi4 : i < 10 := hi
    walk_at "wx"
    walk_at "stp"; walk_at "wx"
    refine ⟨p, o, _, _, rfl, hp2, hf, by omega, by omega, by omega, fun d o1 hd0 hd1 hf1 => ?_⟩
    walk_at "wx"
    obtain ⟨many, hm0, hm1, em⟩ : ∃ m : Nat, 1 ≤ m ∧ m ≤ 12 ∧ 1 + d = (m : Int) := ⟨(1 + d).toNat, by omega, by omega, by omega⟩
    rw [em]
    refine ⟨p, o1, _, many, rfl, gup_same, hf1, by omega, hm0, by omega, fun rows o2 hRW hrl hf2 => ?_⟩
    rw [gup_gup]
    have hRN := rowsN_of (by omega) hRW
    have tlen := rowsS_le hRN
    have tasc := asc_rows hRN
    walk_at "wx"
    have hG : gup g2 p o2 p = some o2 := gup_same
    have hGq2 : gup g2 p o2 q = some (.lst (ts.map .str)) := by rw [gup_ne pq.symm]; exact hq2
    generalize gup g2 p o2 = G2 at *
    walk_at "stp"; walk_at "wx"
    refine ⟨⟨_, hGq2⟩, rows, rfl, by omega, hRN, p, o2, _, rowsS rows, ms, rfl, hG, hf2, by omega, by omega, tasc, m1, m2, mok, fun t o4 hta htl4 hf4 => ?_⟩
    refine ⟨_, by rw [gup_ne pq.symm]; exact hGq2, by rw [List.length_map]; omega, ?_⟩
    refine hN _ _ ⟨o4, ts ++ [t], _, _, by rw [gup_ne pq]; exact gup_same, hf4.up (by omega), by rw [gup_same, List.map_append]; rfl, fun x hx => ?_, by simp; omega, rfl⟩
    rcases List.mem_append.mp hx with hx | hx
    · exact hts x hx
    · rw [List.mem_singleton.mp hx]; exact ⟨by omega, hta⟩
  · rintro ρ g2 ⟨o, ts, x4, x5, hp2, hf, hq2, hts, htl, rfl⟩
    walk_at "stp"; walk_at "wx"
    refine ⟨p, o, _, _, rfl, hp2, hf, by omega, by decide, by decide, fun d o1 hd0 hd1 hf1 => ?_⟩
    walk_at "wx"
    obtain ⟨many, hm0, hm1, em⟩ : ∃ m : Nat, 1 ≤ m ∧ m ≤ 201 ∧ 199 + d = (m : Int) := ⟨(199 + d).toNat, by omega, by omega, by omega⟩
    rw [em]
    refine ⟨p, o1, _, many, rfl, gup_same, hf1, by omega, hm0, hm1, fun rows o2 hRW hrl hf2 => ?_⟩
    rw [gup_gup]
    have hRN := rowsN_of (by omega) hRW
    have tlen := rowsS_le hRN
    have tasc := asc_rows hRN
    walk_at "wx"
    have hG : gup g2 p o2 p = some o2 := gup_same
    have hq3 : gup g2 p o2 q = some (.lst (ts.map .str)) := by rw [gup_ne pq.symm]; exact hq2
    generalize gup g2 p o2 = G2 at *
    walk_at "stp"; walk_at "wx"
    obtain ⟨-, sp2, -⟩ := split_ok (rowsS rows)
    have swl := split_wl (rowsS rows)
    refine ⟨rows, rfl, by omega, hRN, rows, rfl, by omega, hRN, trivial, ?_⟩
    show _ ∧ _ ∧ sp_law_e_spoilt [D.ref p, D.lst (List.map D.str (Txt.split (rowsS rows) spS)), D.lst (List.map D.str ms)] G2 _ _
    refine ⟨by decide +kernel, by omega, p, o2, _, Txt.split (rowsS rows) spS, ms, rfl, hG, hf2, by omega, fun e => by rw [e] at sp2; simp at sp2, m1, m2, by omega, tasc.split, mok, fun t o3 hta htl3 hf3 => ?_⟩
    refine ⟨_, _, by rw [gup_ne pq.symm]; exact hq3, rfl, by simp; omega, fun q4 hq4 => ?_⟩
    have emap : ts.map D.str ++ [.str (rowsS rows), .str t] = (ts ++ [rowsS rows, t]).map .str := by rw [List.map_append]; rfl
    show wHid _ _ _ (gup (gup G2 p o3) q4 (.lst (ts.map D.str ++ [.str (rowsS rows), .str t])))
    rw [emap]
    have gq4 : gup (gup G2 p o3) q4 (.lst ((ts ++ [rowsS rows, t]).map .str)) q4 = some (.lst ((ts ++ [rowsS rows, t]).map .str)) := gup_same
    have hts2 : ∀ x ∈ ts ++ [rowsS rows, t], TxtOk x := fun x hx => by
      rcases List.mem_append.mp hx with hx | hx
      · exact hts x hx
      · simp only [List.mem_cons, List.not_mem_nil, or_false] at hx
        rcases hx with rfl | rfl
        · exact ⟨by omega, tasc⟩
        · exact ⟨by omega, hta⟩
    have htl2 : (ts ++ [rowsS rows, t]).length ≤ 100 := by simp; omega
    clear emap
    generalize ts ++ [rowsS rows, t] = us at *
    walk_at "stp"; walk_at "wx"
    refine compW_m D.str (fun _ => .bl true) gq4 (fun t ht P hP => ⟨t, rfl, (hts2 t ht).1, (hts2 t ht).2, hP⟩) (by rw [szl]; omega) ?_
    refine ⟨us.map fun _ => true, by rw [List.map_map]; rfl, ?_⟩
    have eall : (us.map fun (_ : Str) => true).all id = true := List.all_eq_true.mpr fun x hx => by
      obtain ⟨_, -, rfl⟩ := List.mem_map.mp hx; rfl
    rw [eall]
    exact .same (h _)
theorem law_says : ∀ ns : List Int, ns.length ≤ 63 → sp_law [.rl (ns.map .int)] (fun _ => none) (fun r _ => r = .v (.bl true)) fun _ _ => False := fun ns hn => ⟨ns, rfl, hn, fun _ => rfl⟩
end G3

namespace G3End
open PySem PySem.Spec PyProof.Rows L2 G3
def top (i : Nat) : Stmt := PySem.Challenge.pw_sparecut_k82_no_ladders_texts.main.body.getD i (.Pass ⟨0, 0, 0, 0⟩)
def inCls (st : Stmt) (j : Nat) : Stmt := match st with
  | .ClassDef _ _ _ b _ _ _ _ _ _ _ => b.getD j (.Pass ⟨0, 0, 0, 0⟩)
  | _ => .Pass ⟨0, 0, 0, 0⟩
abbrev s_law_e_fresh : Stmt := top 13
def d_law_e_fresh : He.DefD := ⟨("_law_e_fresh", none), "_law_e_fresh", "_law_e_fresh", defArgs s_law_e_fresh, defBody s_law_e_fresh, defScope s_law_e_fresh, [], []⟩
abbrev s_law_e_take : Stmt := top 14
def d_law_e_take : He.DefD := ⟨("_law_e_take", none), "_law_e_take", "_law_e_take", defArgs s_law_e_take, defBody s_law_e_take, defScope s_law_e_take, [], []⟩
abbrev s_law_e_sign : Stmt := top 19
def d_law_e_sign : He.DefD := ⟨("_law_e_sign", none), "_law_e_sign", "_law_e_sign", defArgs s_law_e_sign, defBody s_law_e_sign, defScope s_law_e_sign, [], []⟩
abbrev s_law_e_spoilt : Stmt := top 20
def d_law_e_spoilt : He.DefD := ⟨("_law_e_spoilt", none), "_law_e_spoilt", "_law_e_spoilt", defArgs s_law_e_spoilt, defBody s_law_e_spoilt, defScope s_law_e_spoilt, [], []⟩
abbrev s_law_e_all_spoilt : Stmt := top 21
def d_law_e_all_spoilt : He.DefD := ⟨("_law_e_all_spoilt", none), "_law_e_all_spoilt", "_law_e_all_spoilt", defArgs s_law_e_all_spoilt, defBody s_law_e_all_spoilt, defScope s_law_e_all_spoilt, [], []⟩
abbrev s_law_e_drawn_rows : Stmt := top 17
def d_law_e_drawn_rows : He.DefD := ⟨("_law_e_drawn_rows", none), "_law_e_drawn_rows", "_law_e_drawn_rows", defArgs s_law_e_drawn_rows, defBody s_law_e_drawn_rows, defScope s_law_e_drawn_rows, [], []⟩
abbrev s_law_e_pen : Stmt := top 12
def d_law_e_pen : He.DefD := ⟨("_law_e_pen", none), "_law_e_pen", "_law_e_pen", defArgs s_law_e_pen, defBody s_law_e_pen, defScope s_law_e_pen, [], []⟩
abbrev s_law_e_ladder_read : Stmt := top 16
def d_law_e_ladder_read : He.DefD := ⟨("_law_e_ladder_read", none), "_law_e_ladder_read", "_law_e_ladder_read", defArgs s_law_e_ladder_read, defBody s_law_e_ladder_read, defScope s_law_e_ladder_read, [], []⟩
abbrev s_Words_is_over : Stmt := inCls (top 9) 1
def d_Words_is_over : He.DefD := ⟨("Words", some "is_over"), "is_over", "Words.is_over", defArgs s_Words_is_over, defBody s_Words_is_over, defScope s_Words_is_over, [], []⟩
abbrev s_Words_is_there : Stmt := inCls (top 9) 5
def d_Words_is_there : He.DefD := ⟨("Words", some "is_there"), "is_there", "Words.is_there", defArgs s_Words_is_there, defBody s_Words_is_there, defScope s_Words_is_there, [], []⟩
abbrev s_Words_refuse : Stmt := inCls (top 9) 2
def d_Words_refuse : He.DefD := ⟨("Words", some "refuse"), "refuse", "Words.refuse", defArgs s_Words_refuse, defBody s_Words_refuse, defScope s_Words_refuse, [], []⟩
abbrev s_number_in : Stmt := top 8
def d_number_in : He.DefD := ⟨("number_in", none), "number_in", "number_in", defArgs s_number_in, defBody s_number_in, defScope s_number_in, [], []⟩
abbrev s_Words_word : Stmt := inCls (top 9) 3
def d_Words_word : He.DefD := ⟨("Words", some "word"), "word", "Words.word", defArgs s_Words_word, defBody s_Words_word, defScope s_Words_word, [], []⟩
abbrev s_Words_number : Stmt := inCls (top 9) 4
def d_Words_number : He.DefD := ⟨("Words", some "number"), "number", "Words.number", defArgs s_Words_number, defBody s_Words_number, defScope s_Words_number, [], []⟩
abbrev s_Words_row : Stmt := inCls (top 9) 7
def d_Words_row : He.DefD := ⟨("Words", some "row"), "row", "Words.row", defArgs s_Words_row, defBody s_Words_row, defScope s_Words_row, [], []⟩
abbrev s_Words___init__ : Stmt := inCls (top 9) 0
def d_Words___init__ : He.DefD := ⟨("Words", some "__init__"), "__init__", "Words.__init__", defArgs s_Words___init__, defBody s_Words___init__, defScope s_Words___init__, [], []⟩
abbrev s_read_ladder : Stmt := top 10
def d_read_ladder : He.DefD := ⟨("read_ladder", none), "read_ladder", "read_ladder", defArgs s_read_ladder, defBody s_read_ladder, defScope s_read_ladder, [], []⟩
abbrev s_law_e_told : Stmt := top 22
def d_law_e_told : He.DefD := ⟨("_law_e_told", none), "_law_e_told", "_law_e_told", defArgs s_law_e_told, defBody s_law_e_told, defScope s_law_e_told, [], []⟩
abbrev s_law_e_right : Stmt := top 23
def d_law_e_right : He.DefD := ⟨("_law_e_right", none), "_law_e_right", "_law_e_right", defArgs s_law_e_right, defBody s_law_e_right, defScope s_law_e_right, [], []⟩
abbrev s_law_e_rows_text : Stmt := top 18
def d_law_e_rows_text : He.DefD := ⟨("_law_e_rows_text", none), "_law_e_rows_text", "_law_e_rows_text", defArgs s_law_e_rows_text, defBody s_law_e_rows_text, defScope s_law_e_rows_text, [], []⟩
abbrev s_law : Stmt := top 24
def d_law : He.DefD := ⟨("law", none), "law", "law", defArgs s_law, defBody s_law, defScope s_law, [], []⟩
abbrev si_NoText : Stmt := inCls (top 3) 0
def di_NoText : He.DefD := ⟨("NoText", some "__init__"), "__init__", "NoText.__init__", defArgs si_NoText, defBody si_NoText, defScope si_NoText, [], []⟩
def fn : List He.DefD := [d_law_e_fresh, d_law_e_take, d_law_e_sign, d_law_e_spoilt, d_law_e_all_spoilt, d_law_e_drawn_rows, d_law_e_pen, d_law_e_ladder_read, d_Words_is_over, d_Words_is_there, d_Words_refuse, d_number_in, d_Words_word, d_Words_number, d_Words_row, d_Words___init__, d_read_ladder, d_law_e_told, d_law_e_right, d_law_e_rows_text, d_law, di_NoText]
def fa : List He.Fa := ((.glo "_law_e_fresh") :: (.glo "_law_e_take") :: (.glo "_law_e_sign") :: (.glo "_law_e_spoilt") :: (.glo "_law_e_all_spoilt") :: (.glo "_law_e_drawn_rows") :: (.glo "_law_e_pen") :: (.glo "_law_e_ladder_read") :: (.glo "number_in") :: (.glo "read_ladder") :: (.glo "_law_e_told") :: (.glo "_law_e_right") :: (.glo "_law_e_rows_text") :: (.glo "law") :: (.free "len") :: (.free "all") :: (.free "any") :: (.free "abs") :: (.free "min") :: (.free "max") :: (.free "sorted") :: (.free "list") :: (.free "tuple") :: (.free "int") :: (.free "isinstance") :: (.free "str") :: (.free "range") :: (.free "repr") :: (.free "enumerate") :: (.free "set") :: (.free "zip") :: (.free "reversed") :: (.free "dict") :: (.free "bool") :: (.int "MOST_CLAIMS" (16)) :: (.int "MOST_ROWS" (200)) :: (.int "MOST_THING" (8)) :: (.glo "NoText") :: (.glo "Words") :: (.cls "Words") :: (.noat "Words" "at") :: (.noat "Words" "words") :: (.meth "Words" "is_over") :: (.meth "Words" "is_there") :: (.meth "Words" "number") :: (.meth "Words" "refuse") :: (.meth "Words" "row") :: (.meth "Words" "word") :: (.mkr "Words") :: [])
abbrev R : PySem.W.OpenRow := PySem.W.OpenLaw.row PySem.Challenge.rw_sparecut_k82_no_ladders_texts
def xb : List (PySem.W.Frag → Bool) := [exB exW, atB "NoText"]
abbrev hk : PySem.W.Hook := hookX 5 xb fa fn
def ob (s : PySem.W.SharedT) : He.AlD := obsXG xb fa fn 5 (HandSHeadRun.getT s)
theorem ob_eq (s : PySem.W.SharedT) : ob s = hk.obs s.abs := obsXG_eq (HandSHeadRun.getT_eq s)
theorem run (w : World) : HandSHeadRun.RunEq R (PySem.W.view R.prog [24]) hk ob 3500 ["_law_e_fresh", "_law_e_take", "_law_e_sign", "_law_e_spoilt", "_law_e_all_spoilt", "_law_e_drawn_rows", "_law_e_pen", "_law_e_ladder_read", "number_in", "read_ladder", "_law_e_told", "_law_e_right", "_law_e_rows_text", "_wall", "_law_e_whole", "MOST_CLAIMS", "MOST_ROWS", "MOST_THING", "SpareError", "NoText", "Words"] w := by
  intro os
  kernel_rfl
end G3End
namespace G3End
open PySem PySem.Spec PyProof.Rows L2 G3
abbrev FnP (K : PySem.W.Frag) (x : Str) (st : Stmt) (f : Addr) (fd : FuncData) : Prop := FunD K x x (defArgs st) (defBody st) (defScope st) [] [] f fd
theorem sc_law_e_fresh : FnScope n_law_e_fresh ["pen"] (defScope s_law_e_fresh) := ⟨rfl, rfl, rfl, by decide +kernel, rfl, by decide +kernel, by decide +kernel⟩
theorem sc_law_e_take : FnScope n_law_e_take ["pen", "many"] (defScope s_law_e_take) := ⟨rfl, rfl, rfl, by decide +kernel, rfl, by decide +kernel, by decide +kernel⟩
theorem sc_law_e_sign : FnScope n_law_e_sign ["pen"] (defScope s_law_e_sign) := ⟨rfl, rfl, rfl, by decide +kernel, rfl, by decide +kernel, by decide +kernel⟩
theorem sc_law_e_spoilt : FnScope n_law_e_spoilt ["pen", "words", "menu"] (defScope s_law_e_spoilt) := ⟨rfl, rfl, rfl, by decide +kernel, rfl, by decide +kernel, by decide +kernel⟩
theorem sc_law_e_all_spoilt : FnScope n_law_e_all_spoilt ["pen", "text", "menu"] (defScope s_law_e_all_spoilt) := ⟨rfl, rfl, rfl, by decide +kernel, rfl, by decide +kernel, by decide +kernel⟩
theorem sc_law_e_drawn_rows : FnScope n_law_e_drawn_rows ["pen", "many"] (defScope s_law_e_drawn_rows) := ⟨rfl, rfl, rfl, by decide +kernel, rfl, by decide +kernel, by decide +kernel⟩
theorem sc_law_e_pen : FnScope n_law_e_pen ["script"] (defScope s_law_e_pen) := ⟨rfl, rfl, rfl, by decide +kernel, rfl, by decide +kernel, by decide +kernel⟩
theorem sc_law_e_ladder_read : FnScope n_law_e_ladder_read ["text"] (defScope s_law_e_ladder_read) := ⟨rfl, rfl, rfl, by decide +kernel, rfl, by decide +kernel, by decide +kernel⟩
theorem sc_Words_is_over : FnScope n_Words_is_over ["self"] (defScope s_Words_is_over) := ⟨rfl, rfl, rfl, by decide +kernel, rfl, by decide +kernel, by decide +kernel⟩
theorem sc_Words_is_there : FnScope n_Words_is_there ["self", "word"] (defScope s_Words_is_there) := ⟨rfl, rfl, rfl, by decide +kernel, rfl, by decide +kernel, by decide +kernel⟩
theorem sc_Words_refuse : FnScope n_Words_refuse ["self"] (defScope s_Words_refuse) := ⟨rfl, rfl, rfl, by decide +kernel, rfl, by decide +kernel, by decide +kernel⟩
theorem sc_number_in : FnScope n_number_in ["word", "low", "high"] (defScope s_number_in) := ⟨rfl, rfl, rfl, by decide +kernel, rfl, by decide +kernel, by decide +kernel⟩
theorem sc_Words_word : FnScope n_Words_word ["self"] (defScope s_Words_word) := ⟨rfl, rfl, rfl, by decide +kernel, rfl, by decide +kernel, by decide +kernel⟩
theorem sc_Words_number : FnScope n_Words_number ["self", "low", "high"] (defScope s_Words_number) := ⟨rfl, rfl, rfl, by decide +kernel, rfl, by decide +kernel, by decide +kernel⟩
theorem sc_Words_row : FnScope n_Words_row ["self", "many"] (defScope s_Words_row) := ⟨rfl, rfl, rfl, by decide +kernel, rfl, by decide +kernel, by decide +kernel⟩
theorem sc_Words___init__ : FnScope n_Words___init__ ["self", "text"] (defScope s_Words___init__) := ⟨rfl, rfl, rfl, by decide +kernel, rfl, by decide +kernel, by decide +kernel⟩
theorem sc_read_ladder : FnScope n_read_ladder ["text"] (defScope s_read_ladder) := ⟨rfl, rfl, rfl, by decide +kernel, rfl, by decide +kernel, by decide +kernel⟩
theorem sc_law_e_told : FnScope n_law_e_told ["text"] (defScope s_law_e_told) := ⟨rfl, rfl, rfl, by decide +kernel, rfl, by decide +kernel, by decide +kernel⟩
theorem sc_law_e_right : FnScope n_law_e_right ["text"] (defScope s_law_e_right) := ⟨rfl, rfl, rfl, by decide +kernel, rfl, by decide +kernel, by decide +kernel⟩
theorem sc_law_e_rows_text : FnScope n_law_e_rows_text ["rows"] (defScope s_law_e_rows_text) := ⟨rfl, rfl, rfl, by decide +kernel, rfl, by decide +kernel, by decide +kernel⟩
theorem sc_law : FnScope n_law ["script"] (defScope s_law) := ⟨rfl, rfl, rfl, by decide +kernel, rfl, by decide +kernel, by decide +kernel⟩
theorem bt_bool : bootBuiltins "bool" = some (.type "bool") := by first | rfl | decide +kernel
theorem bt_int : bootBuiltins "int" = some (.type "int") := by first | rfl | decide +kernel
section
variable {P : Program} {w : World} {K : PySem.W.Frag} {mg : Str → Option Value} {base : Heap} {f : Addr} {fd : FuncData}
theorem ok_law_e_fresh (F : FunD K "_law_e_fresh" "_law_e_fresh" (defArgs s_law_e_fresh) (defBody s_law_e_fresh) (defScope s_law_e_fresh) [] [] f fd) (nb : ∀ x ∈ bnames, mg x = none) : FnG P w K mg base 1 f fd ["pen"] sp_law_e_fresh :=
  fn_by (body := b_law_e_fresh) F sc_law_e_fresh (by decide +kernel) ExcW.nil nb (by simp only [NdSs, NdS, NdE, NdL, NdO, NdI, b_law_e_fresh, b_law_e_fresh_10, b_law_e_fresh_11, b_law_e_fresh_12, b_law_e_fresh_13, b_law_e_fresh_14, b_law_e_fresh_5, b_law_e_fresh_6, b_law_e_fresh_8, and_self]) (fun ds g Q W h => by
    repeat (first | (obtain ⟨rfl, h⟩ := h; rfl) | obtain ⟨_, h⟩ := h)) (w_law_e_fresh)
theorem ok_law_e_take (F : FunD K "_law_e_take" "_law_e_take" (defArgs s_law_e_take) (defBody s_law_e_take) (defScope s_law_e_take) [] [] f fd) (nb : ∀ x ∈ bnames, mg x = none) (h0 : FnIn ⟨P, w, K, mg, base⟩ 1 "_law_e_fresh" sp_law_e_fresh) : FnG P w K mg base 2 f fd ["pen", "many"] sp_law_e_take :=
  fn_by (body := b_law_e_take) F sc_law_e_take (by decide +kernel) ExcW.nil nb (by simp only [NdSs, NdS, NdE, NdL, NdO, NdI, b_law_e_take, b_law_e_take_3, h0, and_self]) (fun ds g Q W h => by
    repeat (first | (obtain ⟨rfl, h⟩ := h; rfl) | obtain ⟨_, h⟩ := h)) (w_law_e_take)
theorem ok_law_e_sign (F : FunD K "_law_e_sign" "_law_e_sign" (defArgs s_law_e_sign) (defBody s_law_e_sign) (defScope s_law_e_sign) [] [] f fd) (nb : ∀ x ∈ bnames, mg x = none) (h0 : FnIn ⟨P, w, K, mg, base⟩ 2 "_law_e_take" sp_law_e_take) : FnG P w K mg base 3 f fd ["pen"] sp_law_e_sign :=
  fn_by (body := b_law_e_sign) F sc_law_e_sign (by decide +kernel) ExcW.nil nb (by simp only [NdSs, NdS, NdE, NdL, NdO, NdI, b_law_e_sign, h0, and_self]) (fun ds g Q W h => by
    repeat (first | (obtain ⟨rfl, h⟩ := h; rfl) | obtain ⟨_, h⟩ := h)) (w_law_e_sign)
theorem ok_law_e_spoilt (F : FunD K "_law_e_spoilt" "_law_e_spoilt" (defArgs s_law_e_spoilt) (defBody s_law_e_spoilt) (defScope s_law_e_spoilt) [] [] f fd) (nb : ∀ x ∈ bnames, mg x = none) (h0 : FnIn ⟨P, w, K, mg, base⟩ 3 "_law_e_sign" sp_law_e_sign) (h1 : FnIn ⟨P, w, K, mg, base⟩ 3 "_law_e_take" sp_law_e_take) : FnG P w K mg base 4 f fd ["pen", "words", "menu"] sp_law_e_spoilt :=
  fn_by (body := b_law_e_spoilt) F sc_law_e_spoilt (by decide +kernel) ExcW.nil nb (by simp only [NdSs, NdS, NdE, NdL, NdO, NdI, b_law_e_spoilt, b_law_e_spoilt_10, b_law_e_spoilt_11, b_law_e_spoilt_12, b_law_e_spoilt_13, b_law_e_spoilt_15, b_law_e_spoilt_16, b_law_e_spoilt_2, b_law_e_spoilt_3, b_law_e_spoilt_4, b_law_e_spoilt_5, b_law_e_spoilt_7, b_law_e_spoilt_8, b_law_e_spoilt_9, h0, h1, and_self]) (fun ds g Q W h => by
    repeat (first | (obtain ⟨rfl, h⟩ := h; rfl) | obtain ⟨_, h⟩ := h)) (w_law_e_spoilt)
theorem ok_law_e_all_spoilt (F : FunD K "_law_e_all_spoilt" "_law_e_all_spoilt" (defArgs s_law_e_all_spoilt) (defBody s_law_e_all_spoilt) (defScope s_law_e_all_spoilt) [] [] f fd) (nb : ∀ x ∈ bnames, mg x = none) (h0 : FnIn ⟨P, w, K, mg, base⟩ 4 "_law_e_spoilt" sp_law_e_spoilt) (h1 : FnIn ⟨P, w, K, mg, base⟩ 4 "_law_e_take" sp_law_e_take) : FnG P w K mg base 5 f fd ["pen", "text", "menu"] sp_law_e_all_spoilt :=
  fn_by (body := b_law_e_all_spoilt) F sc_law_e_all_spoilt (by decide +kernel) ExcW.nil nb (by simp only [NdSs, NdS, NdE, NdL, NdO, NdI, b_law_e_all_spoilt, b_law_e_all_spoilt_2, b_law_e_all_spoilt_3, h0, h1, and_self]) (fun ds g Q W h => by
    repeat (first | (obtain ⟨rfl, h⟩ := h; rfl) | obtain ⟨_, h⟩ := h)) (w_law_e_all_spoilt)
theorem ok_law_e_drawn_rows (F : FunD K "_law_e_drawn_rows" "_law_e_drawn_rows" (defArgs s_law_e_drawn_rows) (defBody s_law_e_drawn_rows) (defScope s_law_e_drawn_rows) [] [] f fd) (nb : ∀ x ∈ bnames, mg x = none) (h0 : FnIn ⟨P, w, K, mg, base⟩ 2 "_law_e_take" sp_law_e_take) : FnG P w K mg base 3 f fd ["pen", "many"] sp_law_e_drawn_rows :=
  fn_by (body := b_law_e_drawn_rows) F sc_law_e_drawn_rows (by decide +kernel) ExcW.nil nb (by simp only [NdSs, NdS, NdE, NdL, NdO, NdI, b_law_e_drawn_rows, b_law_e_drawn_rows_2, b_law_e_drawn_rows_3, b_law_e_drawn_rows_4, b_law_e_drawn_rows_5, b_law_e_drawn_rows_6, b_law_e_drawn_rows_7, h0, and_self]) (fun ds g Q W h => by
    repeat (first | (obtain ⟨rfl, h⟩ := h; rfl) | obtain ⟨_, h⟩ := h)) (w_law_e_drawn_rows)
theorem ok_law_e_pen (F : FunD K "_law_e_pen" "_law_e_pen" (defArgs s_law_e_pen) (defBody s_law_e_pen) (defScope s_law_e_pen) [] [] f fd) (nb : ∀ x ∈ bnames, mg x = none) : FnG P w K mg base 1 f fd ["script"] sp_law_e_pen :=
  fn_by (body := b_law_e_pen) F sc_law_e_pen (by decide +kernel) ExcW.nil nb (by simp only [NdSs, NdS, NdE, NdL, NdO, NdI, b_law_e_pen, and_self]) (fun ds g Q W h => by
    repeat (first | (obtain ⟨rfl, h⟩ := h; rfl) | obtain ⟨_, h⟩ := h)) (w_law_e_pen)
theorem ok_law_e_ladder_read (F : FunD K "_law_e_ladder_read" "_law_e_ladder_read" (defArgs s_law_e_ladder_read) (defBody s_law_e_ladder_read) (defScope s_law_e_ladder_read) [] [] f fd) (nb : ∀ x ∈ bnames, mg x = none) : FnG P w K mg base 1 f fd ["text"] sp_law_e_ladder_read :=
  fn_by (body := b_law_e_ladder_read) F sc_law_e_ladder_read (by decide +kernel) ExcW.nil nb (by simp only [NdSs, NdS, NdE, NdL, NdO, NdI, b_law_e_ladder_read, b_law_e_ladder_read_10, b_law_e_ladder_read_11, b_law_e_ladder_read_13, b_law_e_ladder_read_15, b_law_e_ladder_read_16, b_law_e_ladder_read_18, b_law_e_ladder_read_19, b_law_e_ladder_read_22, b_law_e_ladder_read_23, b_law_e_ladder_read_25, b_law_e_ladder_read_5, b_law_e_ladder_read_7, b_law_e_ladder_read_8, b_law_e_ladder_read_9, and_self]) (fun ds g Q W h => by
    repeat (first | (obtain ⟨rfl, h⟩ := h; rfl) | obtain ⟨_, h⟩ := h)) (w_law_e_ladder_read)
theorem ok_Words_is_over (F : FunD K "is_over" "Words.is_over" (defArgs s_Words_is_over) (defBody s_Words_is_over) (defScope s_Words_is_over) [] [] f fd) (nb : ∀ x ∈ bnames, mg x = none) (fl_Words_at : FlIn ⟨P, w, K, mg, base⟩ "Words" "at") (fl_Words_words : FlIn ⟨P, w, K, mg, base⟩ "Words" "words") : FnG P w K mg base 1 f fd ["self"] sp_Words_is_over :=
  fn_by (body := b_Words_is_over) F sc_Words_is_over (by decide +kernel) ExcW.nil nb (by simp only [NdSs, NdS, NdE, NdL, NdO, NdI, b_Words_is_over, fl_Words_at, fl_Words_words, and_self]) (fun ds g Q W h => by
    repeat (first | (obtain ⟨rfl, h⟩ := h; rfl) | obtain ⟨_, h⟩ := h)) (w_Words_is_over)
theorem ok_Words_is_there (F : FunD K "is_there" "Words.is_there" (defArgs s_Words_is_there) (defBody s_Words_is_there) (defScope s_Words_is_there) [] [] f fd) (nb : ∀ x ∈ bnames, mg x = none) (mt_Words_is_over : MtIn ⟨P, w, K, mg, base⟩ 1 "Words" "is_over" sp_Words_is_over) (fl_Words_at : FlIn ⟨P, w, K, mg, base⟩ "Words" "at") (fl_Words_words : FlIn ⟨P, w, K, mg, base⟩ "Words" "words") : FnG P w K mg base 2 f fd ["self", "word"] sp_Words_is_there :=
  fn_by (body := b_Words_is_there) F sc_Words_is_there (by decide +kernel) ExcW.nil nb (by simp only [NdSs, NdS, NdE, NdL, NdO, NdI, b_Words_is_there, b_Words_is_there_3, mt_Words_is_over, fl_Words_at, fl_Words_words, and_self]) (fun ds g Q W h => by
    repeat (first | (obtain ⟨rfl, h⟩ := h; rfl) | obtain ⟨_, h⟩ := h)) (w_Words_is_there)
theorem ok_Words_refuse (F : FunD K "refuse" "Words.refuse" (defArgs s_Words_refuse) (defBody s_Words_refuse) (defScope s_Words_refuse) [] [] f fd) (nb : ∀ x ∈ bnames, mg x = none) (fl_Words_at : FlIn ⟨P, w, K, mg, base⟩ "Words" "at") (a_NoText : AtIn ⟨P, w, K, mg, base⟩ 2 "NoText") : FnG P w K mg base 3 f fd ["self"] sp_Words_refuse :=
  fn_by (body := b_Words_refuse) F sc_Words_refuse (by decide +kernel) ExcW.nil nb (by simp only [NdSs, NdS, NdE, NdL, NdO, NdI, b_Words_refuse, fl_Words_at, a_NoText, and_self]) (fun ds g Q W h => by
    repeat (first | (obtain ⟨rfl, h⟩ := h; rfl) | obtain ⟨_, h⟩ := h)) (w_Words_refuse)
theorem ok_number_in (F : FunD K "number_in" "number_in" (defArgs s_number_in) (defBody s_number_in) (defScope s_number_in) [] [] f fd) (nb : ∀ x ∈ bnames, mg x = none) : FnG P w K mg base 1 f fd ["word", "low", "high"] sp_number_in :=
  fn_by (body := b_number_in) F sc_number_in (by decide +kernel) ExcW.nil nb (by simp only [NdSs, NdS, NdE, NdL, NdO, NdI, b_number_in, b_number_in_3, b_number_in_5, and_self]) (fun ds g Q W h => by
    repeat (first | (obtain ⟨rfl, h⟩ := h; rfl) | obtain ⟨_, h⟩ := h)) (w_number_in)
theorem ok_Words_word (F : FunD K "word" "Words.word" (defArgs s_Words_word) (defBody s_Words_word) (defScope s_Words_word) [] [] f fd) (nb : ∀ x ∈ bnames, mg x = none) (mt_Words_is_over : MtIn ⟨P, w, K, mg, base⟩ 3 "Words" "is_over" sp_Words_is_over) (mt_Words_refuse : MtIn ⟨P, w, K, mg, base⟩ 3 "Words" "refuse" sp_Words_refuse) (fl_Words_at : FlIn ⟨P, w, K, mg, base⟩ "Words" "at") (fl_Words_words : FlIn ⟨P, w, K, mg, base⟩ "Words" "words") : FnG P w K mg base 4 f fd ["self"] sp_Words_word :=
  fn_by (body := b_Words_word) F sc_Words_word (by decide +kernel) ExcW.nil nb (by simp only [NdSs, NdS, NdE, NdL, NdO, NdI, b_Words_word, b_Words_word_3, mt_Words_is_over, mt_Words_refuse, fl_Words_at, fl_Words_words, and_self]) (fun ds g Q W h => by
    repeat (first | (obtain ⟨rfl, h⟩ := h; rfl) | obtain ⟨_, h⟩ := h)) (w_Words_word)
theorem ok_Words_number (F : FunD K "number" "Words.number" (defArgs s_Words_number) (defBody s_Words_number) (defScope s_Words_number) [] [] f fd) (nb : ∀ x ∈ bnames, mg x = none) (h0 : FnIn ⟨P, w, K, mg, base⟩ 4 "number_in" sp_number_in) (mt_Words_refuse : MtIn ⟨P, w, K, mg, base⟩ 4 "Words" "refuse" sp_Words_refuse) (mt_Words_word : MtIn ⟨P, w, K, mg, base⟩ 4 "Words" "word" sp_Words_word) (fl_Words_at : FlIn ⟨P, w, K, mg, base⟩ "Words" "at") : FnG P w K mg base 5 f fd ["self", "low", "high"] sp_Words_number :=
  fn_by (body := b_Words_number) F sc_Words_number (by decide +kernel) ExcW.nil nb (by simp only [NdSs, NdS, NdE, NdL, NdO, NdI, b_Words_number, b_Words_number_2, b_Words_number_4, h0, mt_Words_refuse, mt_Words_word, fl_Words_at, and_self]) (fun ds g Q W h => by
    repeat (first | (obtain ⟨rfl, h⟩ := h; rfl) | obtain ⟨_, h⟩ := h)) (w_Words_number)
theorem ok_Words_row (F : FunD K "row" "Words.row" (defArgs s_Words_row) (defBody s_Words_row) (defScope s_Words_row) [] [] f fd) (nb : ∀ x ∈ bnames, mg x = none) (mt_Words_is_there : MtIn ⟨P, w, K, mg, base⟩ 5 "Words" "is_there" sp_Words_is_there) (mt_Words_number : MtIn ⟨P, w, K, mg, base⟩ 5 "Words" "number" sp_Words_number) (mt_Words_refuse : MtIn ⟨P, w, K, mg, base⟩ 5 "Words" "refuse" sp_Words_refuse) (q_MOST_CLAIMS : GlIn ⟨P, w, K, mg, base⟩ "MOST_CLAIMS" (.int 16)) (q_MOST_THING : GlIn ⟨P, w, K, mg, base⟩ "MOST_THING" (.int 8)) : FnG P w K mg base 6 f fd ["self", "many"] sp_Words_row :=
  fn_by (body := b_Words_row) F sc_Words_row (by decide +kernel) ExcW.nil nb (by simp only [NdSs, NdS, NdE, NdL, NdO, NdI, b_Words_row, b_Words_row_2, b_Words_row_3, b_Words_row_5, b_Words_row_6, b_Words_row_7, mt_Words_is_there, mt_Words_number, mt_Words_refuse, q_MOST_CLAIMS, q_MOST_THING, and_self]) (fun ds g Q W h => by
    repeat (first | (obtain ⟨rfl, h⟩ := h; rfl) | obtain ⟨_, h⟩ := h)) (w_Words_row)
theorem ok_Words___init__ (F : FunD K "__init__" "Words.__init__" (defArgs s_Words___init__) (defBody s_Words___init__) (defScope s_Words___init__) [] [] f fd) (nb : ∀ x ∈ bnames, mg x = none) (fl_Words_at : FlIn ⟨P, w, K, mg, base⟩ "Words" "at") (fl_Words_words : FlIn ⟨P, w, K, mg, base⟩ "Words" "words") : FnG P w K mg base 1 f fd ["self", "text"] sp_Words___init__ :=
  fn_by (body := b_Words___init__) F sc_Words___init__ (by decide +kernel) ExcW.nil nb (by simp only [NdSs, NdS, NdE, NdL, NdO, NdI, b_Words___init__, fl_Words_at, fl_Words_words, and_self]) (fun ds g Q W h => by
    repeat (first | (obtain ⟨rfl, h⟩ := h; rfl) | obtain ⟨_, h⟩ := h)) (w_Words___init__)
theorem ok_read_ladder (F : FunD K "read_ladder" "read_ladder" (defArgs s_read_ladder) (defBody s_read_ladder) (defScope s_read_ladder) [] [] f fd) (nb : ∀ x ∈ bnames, mg x = none) (mt_Words_is_over : MtIn ⟨P, w, K, mg, base⟩ 6 "Words" "is_over" sp_Words_is_over) (mt_Words_is_there : MtIn ⟨P, w, K, mg, base⟩ 6 "Words" "is_there" sp_Words_is_there) (mt_Words_refuse : MtIn ⟨P, w, K, mg, base⟩ 6 "Words" "refuse" sp_Words_refuse) (mt_Words_row : MtIn ⟨P, w, K, mg, base⟩ 6 "Words" "row" sp_Words_row) (nw_Words : NwIn ⟨P, w, K, mg, base⟩ 6 "Words" sp_Words___init__) (q_MOST_ROWS : GlIn ⟨P, w, K, mg, base⟩ "MOST_ROWS" (.int 200)) : FnG P w K mg base 7 f fd ["text"] sp_read_ladder :=
  fn_by (body := b_read_ladder) F sc_read_ladder (by decide +kernel) ExcW.nil nb (by simp only [NdSs, NdS, NdE, NdL, NdO, NdI, b_read_ladder, b_read_ladder_3, b_read_ladder_4, b_read_ladder_6, mt_Words_is_over, mt_Words_is_there, mt_Words_refuse, mt_Words_row, nw_Words, q_MOST_ROWS, and_self]) (fun ds g Q W h => by
    repeat (first | (obtain ⟨rfl, h⟩ := h; rfl) | obtain ⟨_, h⟩ := h)) (w_read_ladder)
theorem ok_law_e_told (F : FunD K "_law_e_told" "_law_e_told" (defArgs s_law_e_told) (defBody s_law_e_told) (defScope s_law_e_told) [] [] f fd) (nb : ∀ x ∈ bnames, mg x = none) (h0 : FnIn ⟨P, w, K, mg, base⟩ 7 "read_ladder" sp_read_ladder) (k_NoText : ClIn ⟨P, w, K, mg, base⟩ "NoText") (eX : ExcW K exW) : FnG P w K mg base 8 f fd ["text"] sp_law_e_told :=
  fn_by (body := b_law_e_told) F sc_law_e_told (by decide +kernel) eX nb (by simp only [NdSs, NdS, NdE, NdL, NdO, NdI, b_law_e_told, b_law_e_told_3, b_law_e_told_5, h0, k_NoText, and_self]) (fun ds g Q W h => by
    repeat (first | (obtain ⟨rfl, h⟩ := h; rfl) | obtain ⟨_, h⟩ := h)) (w_law_e_told)
theorem ok_law_e_right (F : FunD K "_law_e_right" "_law_e_right" (defArgs s_law_e_right) (defBody s_law_e_right) (defScope s_law_e_right) [] [] f fd) (nb : ∀ x ∈ bnames, mg x = none) (h0 : FnIn ⟨P, w, K, mg, base⟩ 8 "_law_e_ladder_read" sp_law_e_ladder_read) (h1 : FnIn ⟨P, w, K, mg, base⟩ 8 "_law_e_told" sp_law_e_told) (e_int : mg "int" = none) : FnG P w K mg base 9 f fd ["text"] sp_law_e_right :=
  fn_by (body := b_law_e_right) F sc_law_e_right (by decide +kernel) ExcW.nil nb (by simp only [NdSs, NdS, NdE, NdL, NdO, NdI, b_law_e_right, b_law_e_right_2, h0, h1, e_int, bt_int, and_self]) (fun ds g Q W h => by
    repeat (first | (obtain ⟨rfl, h⟩ := h; rfl) | obtain ⟨_, h⟩ := h)) (w_law_e_right)
theorem ok_law_e_rows_text (F : FunD K "_law_e_rows_text" "_law_e_rows_text" (defArgs s_law_e_rows_text) (defBody s_law_e_rows_text) (defScope s_law_e_rows_text) [] [] f fd) (nb : ∀ x ∈ bnames, mg x = none) : FnG P w K mg base 1 f fd ["rows"] sp_law_e_rows_text :=
  fn_by (body := b_law_e_rows_text) F sc_law_e_rows_text (by decide +kernel) ExcW.nil nb (by simp only [NdSs, NdS, NdE, NdL, NdO, NdI, b_law_e_rows_text, and_self]) (fun ds g Q W h => by
    repeat (first | (obtain ⟨rfl, h⟩ := h; rfl) | obtain ⟨_, h⟩ := h)) (w_law_e_rows_text)
theorem ok_law (F : FunD K "law" "law" (defArgs s_law) (defBody s_law) (defScope s_law) [] [] f fd) (nb : ∀ x ∈ bnames, mg x = none) (h0 : FnIn ⟨P, w, K, mg, base⟩ 9 "_law_e_all_spoilt" sp_law_e_all_spoilt) (h1 : FnIn ⟨P, w, K, mg, base⟩ 9 "_law_e_drawn_rows" sp_law_e_drawn_rows) (h2 : FnIn ⟨P, w, K, mg, base⟩ 9 "_law_e_pen" sp_law_e_pen) (h3 : FnIn ⟨P, w, K, mg, base⟩ 9 "_law_e_right" sp_law_e_right) (h4 : FnIn ⟨P, w, K, mg, base⟩ 9 "_law_e_rows_text" sp_law_e_rows_text) (h5 : FnIn ⟨P, w, K, mg, base⟩ 9 "_law_e_spoilt" sp_law_e_spoilt) (h6 : FnIn ⟨P, w, K, mg, base⟩ 9 "_law_e_take" sp_law_e_take) : FnG P w K mg base 10 f fd ["script"] sp_law :=
  fn_by (body := b_law) F sc_law (by decide +kernel) ExcW.nil nb (by simp only [NdSs, NdS, NdE, NdL, NdO, NdI, b_law, b_law_10, b_law_11, b_law_12, b_law_13, b_law_2, b_law_3, b_law_4, b_law_5, b_law_6, b_law_7, b_law_8, b_law_9, h0, h1, h2, h3, h4, h5, h6, and_self]) (fun ds g Q W h => by
    repeat (first | (obtain ⟨rfl, h⟩ := h; rfl) | obtain ⟨_, h⟩ := h)) (w_law)
end
theorem sci_NoText : FnScope ["self", "at"] ["self", "at"] (defScope si_NoText) := ⟨rfl, rfl, rfl, by decide +kernel, rfl, by decide +kernel, by decide +kernel⟩
theorem facts {P : Program} {w : World} {K : PySem.W.Frag} {h : Heap} {mg : Str → Option Value} {f : Addr} (X : K.In h) (G : h.Ns mainGlobals mg) (hfa : mg ("law" : Str) = some (.ref f)) (c0 : SaysX xb fa fn K) :
    ∃ fd : FuncData, (∀ (s : Shared) (v : Value), BindsTo s fd ⟨[v], []⟩ [("script", v)]) ∧ ∀ base : Heap, K.In base → base.Ns mainGlobals mg → FnG P w K mg base 10 f fd ["script"] sp_law := by
  have c := c0.d
  have eX : ExcW K exW := exB_ok (c0.x _ List.mem_cons_self)
  obtain ⟨fd_law_e_fresh, F_law_e_fresh⟩ := c.def_ 0 (d := d_law_e_fresh) rfl
  obtain ⟨fd_law_e_take, F_law_e_take⟩ := c.def_ 1 (d := d_law_e_take) rfl
  obtain ⟨fd_law_e_sign, F_law_e_sign⟩ := c.def_ 2 (d := d_law_e_sign) rfl
  obtain ⟨fd_law_e_spoilt, F_law_e_spoilt⟩ := c.def_ 3 (d := d_law_e_spoilt) rfl
  obtain ⟨fd_law_e_all_spoilt, F_law_e_all_spoilt⟩ := c.def_ 4 (d := d_law_e_all_spoilt) rfl
  obtain ⟨fd_law_e_drawn_rows, F_law_e_drawn_rows⟩ := c.def_ 5 (d := d_law_e_drawn_rows) rfl
  obtain ⟨fd_law_e_pen, F_law_e_pen⟩ := c.def_ 6 (d := d_law_e_pen) rfl
  obtain ⟨fd_law_e_ladder_read, F_law_e_ladder_read⟩ := c.def_ 7 (d := d_law_e_ladder_read) rfl
  obtain ⟨fd_Words_is_over, F_Words_is_over⟩ := c.def_ 8 (d := d_Words_is_over) rfl
  obtain ⟨fd_Words_is_there, F_Words_is_there⟩ := c.def_ 9 (d := d_Words_is_there) rfl
  obtain ⟨fd_Words_refuse, F_Words_refuse⟩ := c.def_ 10 (d := d_Words_refuse) rfl
  obtain ⟨fd_number_in, F_number_in⟩ := c.def_ 11 (d := d_number_in) rfl
  obtain ⟨fd_Words_word, F_Words_word⟩ := c.def_ 12 (d := d_Words_word) rfl
  obtain ⟨fd_Words_number, F_Words_number⟩ := c.def_ 13 (d := d_Words_number) rfl
  obtain ⟨fd_Words_row, F_Words_row⟩ := c.def_ 14 (d := d_Words_row) rfl
  obtain ⟨fd_Words___init__, F_Words___init__⟩ := c.def_ 15 (d := d_Words___init__) rfl
  obtain ⟨fd_read_ladder, F_read_ladder⟩ := c.def_ 16 (d := d_read_ladder) rfl
  obtain ⟨fd_law_e_told, F_law_e_told⟩ := c.def_ 17 (d := d_law_e_told) rfl
  obtain ⟨fd_law_e_right, F_law_e_right⟩ := c.def_ 18 (d := d_law_e_right) rfl
  obtain ⟨fd_law_e_rows_text, F_law_e_rows_text⟩ := c.def_ 19 (d := d_law_e_rows_text) rfl
  obtain ⟨fd_law, F_law⟩ := c.def_ 20 (d := d_law) rfl
  have g_law_e_fresh := He.glo_ok X G (c.fact 0 (f := .glo "_law_e_fresh") rfl)
  have ga_law_e_fresh := gaK_of (He.eqO_ok (c.fact 0 (f := .glo "_law_e_fresh") rfl))
  have g_law_e_take := He.glo_ok X G (c.fact 1 (f := .glo "_law_e_take") rfl)
  have ga_law_e_take := gaK_of (He.eqO_ok (c.fact 1 (f := .glo "_law_e_take") rfl))
  have g_law_e_sign := He.glo_ok X G (c.fact 2 (f := .glo "_law_e_sign") rfl)
  have ga_law_e_sign := gaK_of (He.eqO_ok (c.fact 2 (f := .glo "_law_e_sign") rfl))
  have g_law_e_spoilt := He.glo_ok X G (c.fact 3 (f := .glo "_law_e_spoilt") rfl)
  have ga_law_e_spoilt := gaK_of (He.eqO_ok (c.fact 3 (f := .glo "_law_e_spoilt") rfl))
  have g_law_e_all_spoilt := He.glo_ok X G (c.fact 4 (f := .glo "_law_e_all_spoilt") rfl)
  have ga_law_e_all_spoilt := gaK_of (He.eqO_ok (c.fact 4 (f := .glo "_law_e_all_spoilt") rfl))
  have g_law_e_drawn_rows := He.glo_ok X G (c.fact 5 (f := .glo "_law_e_drawn_rows") rfl)
  have ga_law_e_drawn_rows := gaK_of (He.eqO_ok (c.fact 5 (f := .glo "_law_e_drawn_rows") rfl))
  have g_law_e_pen := He.glo_ok X G (c.fact 6 (f := .glo "_law_e_pen") rfl)
  have ga_law_e_pen := gaK_of (He.eqO_ok (c.fact 6 (f := .glo "_law_e_pen") rfl))
  have g_law_e_ladder_read := He.glo_ok X G (c.fact 7 (f := .glo "_law_e_ladder_read") rfl)
  have ga_law_e_ladder_read := gaK_of (He.eqO_ok (c.fact 7 (f := .glo "_law_e_ladder_read") rfl))
  have g_number_in := He.glo_ok X G (c.fact 8 (f := .glo "number_in") rfl)
  have ga_number_in := gaK_of (He.eqO_ok (c.fact 8 (f := .glo "number_in") rfl))
  have g_read_ladder := He.glo_ok X G (c.fact 9 (f := .glo "read_ladder") rfl)
  have ga_read_ladder := gaK_of (He.eqO_ok (c.fact 9 (f := .glo "read_ladder") rfl))
  have g_law_e_told := He.glo_ok X G (c.fact 10 (f := .glo "_law_e_told") rfl)
  have ga_law_e_told := gaK_of (He.eqO_ok (c.fact 10 (f := .glo "_law_e_told") rfl))
  have g_law_e_right := He.glo_ok X G (c.fact 11 (f := .glo "_law_e_right") rfl)
  have ga_law_e_right := gaK_of (He.eqO_ok (c.fact 11 (f := .glo "_law_e_right") rfl))
  have g_law_e_rows_text := He.glo_ok X G (c.fact 12 (f := .glo "_law_e_rows_text") rfl)
  have ga_law_e_rows_text := gaK_of (He.eqO_ok (c.fact 12 (f := .glo "_law_e_rows_text") rfl))
  have e_len := He.free_ok X G (c.fact 14 (f := .free "len") rfl)
  have e_all := He.free_ok X G (c.fact 15 (f := .free "all") rfl)
  have e_any := He.free_ok X G (c.fact 16 (f := .free "any") rfl)
  have e_abs := He.free_ok X G (c.fact 17 (f := .free "abs") rfl)
  have e_min := He.free_ok X G (c.fact 18 (f := .free "min") rfl)
  have e_max := He.free_ok X G (c.fact 19 (f := .free "max") rfl)
  have e_sorted := He.free_ok X G (c.fact 20 (f := .free "sorted") rfl)
  have e_list := He.free_ok X G (c.fact 21 (f := .free "list") rfl)
  have e_tuple := He.free_ok X G (c.fact 22 (f := .free "tuple") rfl)
  have e_int := He.free_ok X G (c.fact 23 (f := .free "int") rfl)
  have e_isinstance := He.free_ok X G (c.fact 24 (f := .free "isinstance") rfl)
  have e_str := He.free_ok X G (c.fact 25 (f := .free "str") rfl)
  have e_range := He.free_ok X G (c.fact 26 (f := .free "range") rfl)
  have e_repr := He.free_ok X G (c.fact 27 (f := .free "repr") rfl)
  have e_enumerate := He.free_ok X G (c.fact 28 (f := .free "enumerate") rfl)
  have e_set := He.free_ok X G (c.fact 29 (f := .free "set") rfl)
  have e_zip := He.free_ok X G (c.fact 30 (f := .free "zip") rfl)
  have e_reversed := He.free_ok X G (c.fact 31 (f := .free "reversed") rfl)
  have e_dict := He.free_ok X G (c.fact 32 (f := .free "dict") rfl)
  have e_bool := He.free_ok X G (c.fact 33 (f := .free "bool") rfl)
  have nb : ∀ x ∈ bnames, mg x = none := by
    intro x hx
    simp only [bnames, List.mem_cons, List.not_mem_nil, or_false] at hx
    rcases hx with rfl | rfl | rfl | rfl | rfl | rfl | rfl | rfl | rfl | rfl | rfl | rfl | rfl | rfl | rfl | rfl | rfl | rfl | rfl
    · exact e_len
    · exact e_all
    · exact e_any
    · exact e_abs
    · exact e_min
    · exact e_max
    · exact e_sorted
    · exact e_list
    · exact e_tuple
    · exact e_int
    · exact e_isinstance
    · exact e_str
    · exact e_range
    · exact e_repr
    · exact e_enumerate
    · exact e_set
    · exact e_zip
    · exact e_reversed
    · exact e_dict
  have g_NoText := He.glo_ok X G (c.fact 37 (f := .glo "NoText") rfl)
  have ga_NoText := gaK_of (He.eqO_ok (c.fact 37 (f := .glo "NoText") rfl))
  obtain ⟨tk_MOST_CLAIMS, gl_MOST_CLAIMS⟩ := He.int_ok X G (c.fact 34 (f := .int "MOST_CLAIMS" (16)) rfl)
  obtain ⟨tk_MOST_ROWS, gl_MOST_ROWS⟩ := He.int_ok X G (c.fact 35 (f := .int "MOST_ROWS" (200)) rfl)
  obtain ⟨tk_MOST_THING, gl_MOST_THING⟩ := He.int_ok X G (c.fact 36 (f := .int "MOST_THING" (8)) rfl)
  have g_Words := He.glo_ok X G (c.fact 38 (f := .glo "Words") rfl)
  have ga_Words := gaK_of (He.eqO_ok (c.fact 38 (f := .glo "Words") rfl))
  have cls_Words := He.cls_ok (c.fact 39 (f := .cls "Words") rfl)
  have na_Words_at := He.noat_ok (c.fact 40 (f := .noat "Words" "at") rfl)
  have na_Words_words := He.noat_ok (c.fact 41 (f := .noat "Words" "words") rfl)
  have me_Words_is_over := He.meth_ok (c.fact 42 (f := .meth "Words" "is_over") rfl)
  have me_Words_is_there := He.meth_ok (c.fact 43 (f := .meth "Words" "is_there") rfl)
  have me_Words_number := He.meth_ok (c.fact 44 (f := .meth "Words" "number") rfl)
  have me_Words_refuse := He.meth_ok (c.fact 45 (f := .meth "Words" "refuse") rfl)
  have me_Words_row := He.meth_ok (c.fact 46 (f := .meth "Words" "row") rfl)
  have me_Words_word := He.meth_ok (c.fact 47 (f := .meth "Words" "word") rfl)
  have mk_Words := He.mkr_ok (c.fact 48 (f := .mkr "Words") rfl)
  have B_law_e_fresh : Binds K fd_law_e_fresh ["pen"] [] := F_law_e_fresh.bindsN fun _ _ _ _ _ _ us hl => match us, hl with | [_], _ => rfl
  have B_law_e_take : Binds K fd_law_e_take ["pen", "many"] [] := F_law_e_take.bindsN fun _ _ _ _ _ _ us hl => match us, hl with | [_, _], _ => rfl
  have B_law_e_sign : Binds K fd_law_e_sign ["pen"] [] := F_law_e_sign.bindsN fun _ _ _ _ _ _ us hl => match us, hl with | [_], _ => rfl
  have B_law_e_spoilt : Binds K fd_law_e_spoilt ["pen", "words", "menu"] [] := F_law_e_spoilt.bindsN fun _ _ _ _ _ _ us hl => match us, hl with | [_, _, _], _ => rfl
  have B_law_e_all_spoilt : Binds K fd_law_e_all_spoilt ["pen", "text", "menu"] [] := F_law_e_all_spoilt.bindsN fun _ _ _ _ _ _ us hl => match us, hl with | [_, _, _], _ => rfl
  have B_law_e_drawn_rows : Binds K fd_law_e_drawn_rows ["pen", "many"] [] := F_law_e_drawn_rows.bindsN fun _ _ _ _ _ _ us hl => match us, hl with | [_, _], _ => rfl
  have B_law_e_pen : Binds K fd_law_e_pen ["script"] [] := F_law_e_pen.bindsN fun _ _ _ _ _ _ us hl => match us, hl with | [_], _ => rfl
  have B_law_e_ladder_read : Binds K fd_law_e_ladder_read ["text"] [] := F_law_e_ladder_read.bindsN fun _ _ _ _ _ _ us hl => match us, hl with | [_], _ => rfl
  have B_Words_is_over : Binds K fd_Words_is_over ["self"] [] := F_Words_is_over.bindsN fun _ _ _ _ _ _ us hl => match us, hl with | [_], _ => rfl
  have B_Words_is_there : Binds K fd_Words_is_there ["self", "word"] [] := F_Words_is_there.bindsN fun _ _ _ _ _ _ us hl => match us, hl with | [_, _], _ => rfl
  have B_Words_refuse : Binds K fd_Words_refuse ["self"] [] := F_Words_refuse.bindsN fun _ _ _ _ _ _ us hl => match us, hl with | [_], _ => rfl
  have B_number_in : Binds K fd_number_in ["word", "low", "high"] [] := F_number_in.bindsN fun _ _ _ _ _ _ us hl => match us, hl with | [_, _, _], _ => rfl
  have B_Words_word : Binds K fd_Words_word ["self"] [] := F_Words_word.bindsN fun _ _ _ _ _ _ us hl => match us, hl with | [_], _ => rfl
  have B_Words_number : Binds K fd_Words_number ["self", "low", "high"] [] := F_Words_number.bindsN fun _ _ _ _ _ _ us hl => match us, hl with | [_, _, _], _ => rfl
  have B_Words_row : Binds K fd_Words_row ["self", "many"] [] := F_Words_row.bindsN fun _ _ _ _ _ _ us hl => match us, hl with | [_, _], _ => rfl
  have B_Words___init__ : Binds K fd_Words___init__ ["self", "text"] [] := F_Words___init__.bindsN fun _ _ _ _ _ _ us hl => match us, hl with | [_, _], _ => rfl
  have B_read_ladder : Binds K fd_read_ladder ["text"] [] := F_read_ladder.bindsN fun _ _ _ _ _ _ us hl => match us, hl with | [_], _ => rfl
  have B_law_e_told : Binds K fd_law_e_told ["text"] [] := F_law_e_told.bindsN fun _ _ _ _ _ _ us hl => match us, hl with | [_], _ => rfl
  have B_law_e_right : Binds K fd_law_e_right ["text"] [] := F_law_e_right.bindsN fun _ _ _ _ _ _ us hl => match us, hl with | [_], _ => rfl
  have B_law_e_rows_text : Binds K fd_law_e_rows_text ["rows"] [] := F_law_e_rows_text.bindsN fun _ _ _ _ _ _ us hl => match us, hl with | [_], _ => rfl
  obtain ⟨fdi_NoText, Fi_NoText⟩ := c.def_ 21 (d := di_NoText) rfl
  have Bi_NoText : Binds K fdi_NoText ["self", "at"] [] := Fi_NoText.bindsN fun _ _ _ _ _ _ us hl => match us, hl with | [_, _], _ => rfl
  have A_NoText : ∀ base : Heap, AtC P w K mg base "NoText" := fun base => atB_ok X G (c0.x (atB "NoText") (by simp [xb])) Fi_NoText sci_NoText (by decide +kernel) Bi_NoText
  have e := hfa.symm.trans (He.glo_ok X G (c.fact 13 (f := .glo "law") rfl))
  cases e
  have b := FunD.bindsA (ps := ["script"]) F_law fun _ _ _ _ _ _ us hl => match us, hl with | [_], _ => rfl
  refine ⟨fd_law, fun s v => b s [v] rfl, fun base _ _ => ?_⟩
  have G_law_e_fresh := ok_law_e_fresh (P := P) (w := w) (base := base) F_law_e_fresh nb 
  have G_law_e_take := ok_law_e_take (P := P) (w := w) (base := base) F_law_e_take nb ⟨_, _, _, 1, by decide, G_law_e_fresh, g_law_e_fresh, F_law_e_fresh.kp, B_law_e_fresh, ga_law_e_fresh⟩
  have G_law_e_sign := ok_law_e_sign (P := P) (w := w) (base := base) F_law_e_sign nb ⟨_, _, _, 2, by decide, G_law_e_take, g_law_e_take, F_law_e_take.kp, B_law_e_take, ga_law_e_take⟩
  have G_law_e_spoilt := ok_law_e_spoilt (P := P) (w := w) (base := base) F_law_e_spoilt nb ⟨_, _, _, 3, by decide, G_law_e_sign, g_law_e_sign, F_law_e_sign.kp, B_law_e_sign, ga_law_e_sign⟩ ⟨_, _, _, 2, by decide, G_law_e_take, g_law_e_take, F_law_e_take.kp, B_law_e_take, ga_law_e_take⟩
  have G_law_e_all_spoilt := ok_law_e_all_spoilt (P := P) (w := w) (base := base) F_law_e_all_spoilt nb ⟨_, _, _, 4, by decide, G_law_e_spoilt, g_law_e_spoilt, F_law_e_spoilt.kp, B_law_e_spoilt, ga_law_e_spoilt⟩ ⟨_, _, _, 2, by decide, G_law_e_take, g_law_e_take, F_law_e_take.kp, B_law_e_take, ga_law_e_take⟩
  have G_law_e_drawn_rows := ok_law_e_drawn_rows (P := P) (w := w) (base := base) F_law_e_drawn_rows nb ⟨_, _, _, 2, by decide, G_law_e_take, g_law_e_take, F_law_e_take.kp, B_law_e_take, ga_law_e_take⟩
  have G_law_e_pen := ok_law_e_pen (P := P) (w := w) (base := base) F_law_e_pen nb 
  have G_law_e_ladder_read := ok_law_e_ladder_read (P := P) (w := w) (base := base) F_law_e_ladder_read nb 
  have G_Words_is_over := ok_Words_is_over (P := P) (w := w) (base := base) F_Words_is_over nb ⟨_, ga_Words, cls_Words, na_Words_at⟩ ⟨_, ga_Words, cls_Words, na_Words_words⟩
  have G_Words_is_there := ok_Words_is_there (P := P) (w := w) (base := base) F_Words_is_there nb ⟨_, _, _, _, 1, by decide, ga_Words, cls_Words, me_Words_is_over, G_Words_is_over, B_Words_is_over⟩ ⟨_, ga_Words, cls_Words, na_Words_at⟩ ⟨_, ga_Words, cls_Words, na_Words_words⟩
  have G_Words_refuse := ok_Words_refuse (P := P) (w := w) (base := base) F_Words_refuse nb ⟨_, ga_Words, cls_Words, na_Words_at⟩ ⟨by decide, A_NoText _⟩
  have G_number_in := ok_number_in (P := P) (w := w) (base := base) F_number_in nb 
  have G_Words_word := ok_Words_word (P := P) (w := w) (base := base) F_Words_word nb ⟨_, _, _, _, 1, by decide, ga_Words, cls_Words, me_Words_is_over, G_Words_is_over, B_Words_is_over⟩ ⟨_, _, _, _, 3, by decide, ga_Words, cls_Words, me_Words_refuse, G_Words_refuse, B_Words_refuse⟩ ⟨_, ga_Words, cls_Words, na_Words_at⟩ ⟨_, ga_Words, cls_Words, na_Words_words⟩
  have G_Words_number := ok_Words_number (P := P) (w := w) (base := base) F_Words_number nb ⟨_, _, _, 1, by decide, G_number_in, g_number_in, F_number_in.kp, B_number_in, ga_number_in⟩ ⟨_, _, _, _, 3, by decide, ga_Words, cls_Words, me_Words_refuse, G_Words_refuse, B_Words_refuse⟩ ⟨_, _, _, _, 4, by decide, ga_Words, cls_Words, me_Words_word, G_Words_word, B_Words_word⟩ ⟨_, ga_Words, cls_Words, na_Words_at⟩
  have G_Words_row := ok_Words_row (P := P) (w := w) (base := base) F_Words_row nb ⟨_, _, _, _, 2, by decide, ga_Words, cls_Words, me_Words_is_there, G_Words_is_there, B_Words_is_there⟩ ⟨_, _, _, _, 5, by decide, ga_Words, cls_Words, me_Words_number, G_Words_number, B_Words_number⟩ ⟨_, _, _, _, 3, by decide, ga_Words, cls_Words, me_Words_refuse, G_Words_refuse, B_Words_refuse⟩ ⟨_, V.int (16), gl_MOST_CLAIMS, ⟨_, rfl⟩, fun _ _ => .int _⟩ ⟨_, V.int (8), gl_MOST_THING, ⟨_, rfl⟩, fun _ _ => .int _⟩
  have G_Words___init__ := ok_Words___init__ (P := P) (w := w) (base := base) F_Words___init__ nb ⟨_, ga_Words, cls_Words, na_Words_at⟩ ⟨_, ga_Words, cls_Words, na_Words_words⟩
  have G_read_ladder := ok_read_ladder (P := P) (w := w) (base := base) F_read_ladder nb ⟨_, _, _, _, 1, by decide, ga_Words, cls_Words, me_Words_is_over, G_Words_is_over, B_Words_is_over⟩ ⟨_, _, _, _, 2, by decide, ga_Words, cls_Words, me_Words_is_there, G_Words_is_there, B_Words_is_there⟩ ⟨_, _, _, _, 3, by decide, ga_Words, cls_Words, me_Words_refuse, G_Words_refuse, B_Words_refuse⟩ ⟨_, _, _, _, 6, by decide, ga_Words, cls_Words, me_Words_row, G_Words_row, B_Words_row⟩ ⟨_, _, _, _, 1, by decide, ga_Words, g_Words, mk_Words, G_Words___init__, B_Words___init__⟩ ⟨_, V.int (200), gl_MOST_ROWS, ⟨_, rfl⟩, fun _ _ => .int _⟩
  have G_law_e_told := ok_law_e_told (P := P) (w := w) (base := base) F_law_e_told nb ⟨_, _, _, 7, by decide, G_read_ladder, g_read_ladder, F_read_ladder.kp, B_read_ladder, ga_read_ladder⟩ ⟨_, ga_NoText, g_NoText⟩ eX
  have G_law_e_right := ok_law_e_right (P := P) (w := w) (base := base) F_law_e_right nb ⟨_, _, _, 1, by decide, G_law_e_ladder_read, g_law_e_ladder_read, F_law_e_ladder_read.kp, B_law_e_ladder_read, ga_law_e_ladder_read⟩ ⟨_, _, _, 8, by decide, G_law_e_told, g_law_e_told, F_law_e_told.kp, B_law_e_told, ga_law_e_told⟩ e_int
  have G_law_e_rows_text := ok_law_e_rows_text (P := P) (w := w) (base := base) F_law_e_rows_text nb 
  exact ok_law (P := P) (w := w) (base := base) F_law nb ⟨_, _, _, 5, by decide, G_law_e_all_spoilt, g_law_e_all_spoilt, F_law_e_all_spoilt.kp, B_law_e_all_spoilt, ga_law_e_all_spoilt⟩ ⟨_, _, _, 3, by decide, G_law_e_drawn_rows, g_law_e_drawn_rows, F_law_e_drawn_rows.kp, B_law_e_drawn_rows, ga_law_e_drawn_rows⟩ ⟨_, _, _, 1, by decide, G_law_e_pen, g_law_e_pen, F_law_e_pen.kp, B_law_e_pen, ga_law_e_pen⟩ ⟨_, _, _, 9, by decide, G_law_e_right, g_law_e_right, F_law_e_right.kp, B_law_e_right, ga_law_e_right⟩ ⟨_, _, _, 1, by decide, G_law_e_rows_text, g_law_e_rows_text, F_law_e_rows_text.kp, B_law_e_rows_text, ga_law_e_rows_text⟩ ⟨_, _, _, 4, by decide, G_law_e_spoilt, g_law_e_spoilt, F_law_e_spoilt.kp, B_law_e_spoilt, ga_law_e_spoilt⟩ ⟨_, _, _, 2, by decide, G_law_e_take, g_law_e_take, F_law_e_take.kp, B_law_e_take, ga_law_e_take⟩
end G3End
open PySem PySem.W PySem.Calls PyProof.Rows
theorem PySem.Challenge.cw_sparecut_k82_no_ladders_texts_holds : PySem.Challenge.rw_sparecut_k82_no_ladders_texts.Holds := by
  w_on; o_law
  refine HandSHeadRun.head_any (r := OpenLaw.row PySem.Challenge.rw_sparecut_k82_no_ladders_texts) (q := view (OpenLaw.row PySem.Challenge.rw_sparecut_k82_no_ladders_texts).prog [24]) (H := G3End.hk) (ob := G3End.ob) (M := 3500) (loose := ["_law_e_fresh", "_law_e_take", "_law_e_sign", "_law_e_spoilt", "_law_e_all_spoilt", "_law_e_drawn_rows", "_law_e_pen", "_law_e_ladder_read", "number_in", "read_ladder", "_law_e_told", "_law_e_right", "_law_e_rows_text", "_wall", "_law_e_whole", "MOST_CLAIMS", "MOST_ROWS", "MOST_THING", "SpareError", "NoText", "Words"])
    (d := HandSHeadRun.topDef (OpenLaw.row PySem.Challenge.rw_sparecut_k82_no_ladders_texts).prog 24) (kwd := []) G3End.ob_eq (by kernel_rfl) (fun s => by kernel_rfl) G3End.run (by kernel_rfl) (by kernel_rfl) (by kernel_rfl) (by rfl) (by first | assumption | decide +kernel) (by decide +kernel) ⟨rfl, rfl, rfl, rfl, rfl, by decide +kernel⟩ ?hw ?hc
  case hw => w_witness2
  case hc =>
    refine G3.walk_end (l := PySem.Challenge.rw_sparecut_k82_no_ladders_texts) (n := 63) (k := 10) (x := "script") rfl (by decide) (by kernel_rfl) ⟨rfl, by decide, by decide⟩ ?F
    intro w mg fa h Y G hmg0
    obtain ⟨K, KX, c⟩ := Y
    have hmg : mg ("law" : PySem.Str) = some (.ref fa) := by
      have e : (HandSHeadRun.topDef (OpenLaw.row PySem.Challenge.rw_sparecut_k82_no_ladders_texts).prog 24).name = ("law" : PySem.Str) := by kernel_rfl
      rw [← e]
      exact hmg0
    obtain ⟨fd, hb, hF⟩ := G3End.facts (P := (PySem.Challenge.rw_sparecut_k82_no_ladders_texts).prog) (w := w) KX G hmg c
    exact ⟨K, fd, G3.sp_law, KX, hb, G3.law_says, hF⟩
