import PyProof.Rows.All
import Wide.All
import OpenK.AllK
import Wide.FinOn
import HandS.ForMost
import HandS.ForExc
import HandS.TupAny
import HandS.Style
import HandS.Walk
import HandS.SlotsVar
import HandS.Strs
import PyProof.Draws
import HandS.IsInst
import PyProof.Rows.SortShellAny
import KE.KExcSuper
import HandS.ExcInit
import HandS.TryMany
import HandS.ExcField
import HandS.ExcIs
import HandS.Codes
import HandS.Defaults
import HandS.WordsExc
import HandS.HeadEnd
import HandS.HeadHook2
import HandS.Head2
import KE.KStateDown
import PySem.Challenge.RW_livelookup_k03_lists_rejected
set_option Elab.async false
set_option linter.all false
set_option maxRecDepth 100000
set_option maxHeartbeats 2000000
/-! LLa: plain values of the own interpreter and how they lie in the hand layer's heap. (v2: objects of several kinds) -/
namespace LL
open PySem L2

/-- what kind of object: a list; a dict with its keys (locked: it may be walked, it is not written); an instance of the class c with its fields' names -/
inductive OK where
  | lst | dct (lk : Bool) (ks : List Key) | ins (c : Nat) (fs : List Str)
/-- plain values: tuples, and objects that nobody writes any more, are values; ref n is the n-th object of the store -/
inductive W where
  | non | bl (b : Bool) | int (i : Int) | str (s : Str)
  | tup (xs : List W) | obj (k : OK) (xs : List W) | ref (n : Nat)
  /-- the script -/
  | scr (ns : List Int)
abbrev W.lst (xs : List W) : W := .obj .lst xs
/-- an object of the store -/
structure SO where
  k : OK
  ws : List W
abbrev SO.lst (xs : List W) : SO := ⟨.lst, xs⟩
/-- a slot of a frame: a value, or an object that this slot alone holds -/
inductive Sl where
  | val (w : W) | own (k : OK) (xs : List W)
abbrev Env' := List (Option Sl)
structure ST where
  env : Env'
  sto : List SO

/-- the classes: where each stands, and the names of its __slots__ if it has them -/
class Cs where
  ad : Nat → Option Addr
  sl : Nat → Option (List Str)

section
variable [Cs]
/-- what stands at the address of an object of kind k with the items vs -/
def IsO (H : Hp) (a : Addr) : OK → List V → HO → Prop
  | .lst, vs, o => o = .lst vs
  | .dct lk ks, vs, o => ks.length = vs.length ∧ ((lk = false ∧ o = .dK (ks.zip vs)) ∨ (lk = true ∧ ∃ ob, o = .frz ob (.dK (ks.zip vs))))
  | .ins c fs, vs, o => ∃ C dx, Cs.ad c = some C ∧ H dx = some (.own a) ∧ dx ≠ a ∧ fs.length = vs.length ∧ (match Cs.sl c with
      | none => o = .ins C dx (fs.zip vs)
      | some N => fs <+: N ∧ (o = L2.SlO C dx a (vs.map some) ∨ (vs = [] ∧ o = .ins C dx [])))
/-- an object at a -/
def At (H : Hp) (a : Addr) (k : OK) (vs : List V) : Prop := ∃ o, H a = some o ∧ IsO H a k vs o ∧ vs.length ≤ sizeLine
/-- an object at a that stays -/
structure FAt (φ : List Addr) (A : Addr → Prop) (H : Hp) (a : Addr) (k : OK) (vs : List V) : Prop where
  at_ : At H a k vs
  nf : a ∉ φ
  na : ¬ A a
/-- no tuple, no mark of an instance's dict -/
def Wr (o : HO) : Prop := (∀ xs, o ≠ .tup xs) ∧ ∀ x, o ≠ .own x
theorem wr_lst {vs : List V} : Wr (.lst vs) := ⟨fun _ z => (nomatch z), fun _ z => (nomatch z)⟩
theorem IsO.wr {H : Hp} {a : Addr} {k : OK} {vs : List V} {o : HO} (h : IsO H a k vs o) : Wr o := by
  cases k with
  | lst => have h : o = .lst vs := h; rw [h]; exact wr_lst
  | dct lk ks =>
    rcases h.2 with ⟨_, h⟩ | ⟨_, ob, h⟩ <;> rw [h] <;> exact ⟨fun _ z => (nomatch z), fun _ z => (nomatch z)⟩
  | ins c fs =>
    obtain ⟨C, dx, _, _, _, _, h⟩ := h
    split at h
    · rw [h]; exact ⟨fun _ z => (nomatch z), fun _ z => (nomatch z)⟩
    · rcases h.2 with h | ⟨_, h⟩ <;> rw [h]
      · exact ⟨fun _ z => by (unfold L2.SlO at z; cases z), fun _ z => by (unfold L2.SlO at z; cases z)⟩
      · exact ⟨fun _ z => (nomatch z), fun _ z => (nomatch z)⟩
/-- marks stay, so does an object's look -/
theorem IsO.keep {H H' : Hp} {a : Addr} {k : OK} {vs : List V} {o : HO} (h : IsO H a k vs o) (m : ∀ d x, H d = some (.own x) → H' d = some (.own x)) : IsO H' a k vs o := by
  cases k with
  | lst => exact h
  | dct lk ks => exact h
  | ins c fs =>
    obtain ⟨C, dx, h1, h2, h3⟩ := h
    exact ⟨C, dx, h1, m dx a h2, h3⟩
end
theorem At.wr [Cs] {H a k vs} (h : At H a k vs) : ∃ o, H a = some o ∧ Wr o := by
  obtain ⟨o, e, q, _⟩ := h
  exact ⟨o, e, q.wr⟩
theorem ne_wr {H : Hp} {a b : Addr} {o : HO} {xs : List V} (h : H a = some (.tup xs)) (h' : H b = some o) (w : Wr o) : a ≠ b := fun e => by
  rw [e, h'] at h; exact w.1 xs (Option.some.inj h)
theorem ne_wro {H : Hp} {a b x : Addr} {o : HO} (h : H a = some (.own x)) (h' : H b = some o) (w : Wr o) : a ≠ b := fun e => by
  rw [e, h'] at h; exact w.2 x (Option.some.inj h)
/-- a tuple at a -/
def TAt (K : PySem.W.Frag) (H : Hp) (a : Addr) (vs : List V) : Prop :=
  (H a = some (.tup vs) ∨
    ∃ (o : Obj) (its : Array Value) (n : Nat), K.lookup a = some o ∧ o.cls = .type "tuple" ∧ o.data = .seq its n ∧ its.size ≤ sizeLine ∧ Vals vs its.toList) ∧ vs.length ≤ sizeLine
theorem TAt.sq {K H a vs} (h : TAt K H a vs) : SqT K H a vs := by
  rcases h.1 with h | h
  · exact .inl (.inl h)
  · exact .inr h
/-- the script's list -/
def ScrAt (K : PySem.W.Frag) (φ : List Addr) (A : Addr → Prop) (H : Hp) (a : Addr) (vs : List V) : Prop :=
  (∃ o u, H a = some (.frz o u) ∧ a ∉ φ ∧ ¬ A a ∧ u = .lst vs) ∨
    ∃ (o : Obj) (its : Array Value) (n : Nat), K.lookup a = some o ∧ o.cls = .type "list" ∧ o.dict = none ∧ o.data = .seq its n ∧ its.size ≤ sizeLine ∧ Vals vs its.toList
theorem ScrAt.sq {K φ A H a vs} (h : ScrAt K φ A H a vs) : SqL K H a vs := by
  rcases h with ⟨o, u, h, _, _, rfl⟩ | h
  · exact .inl (.inr ⟨o, h⟩)
  · exact .inr h

section
variable [Cs]
mutual
def Rep (K : PySem.W.Frag) (φ : List Addr) (A : Addr → Prop) (H : Hp) : W → V → Prop
  | .non, v => v = .non
  | .bl b, v => v = .bl b
  | .int i, v => v = .int i
  | .str s, v => v = .str s ∧ PyData.strOk s = true
  | .tup ws, v => ∃ a vs, v = .ref a ∧ TAt K H a vs ∧ Reps K φ A H ws vs
  | .obj k ws, v => ∃ a vs, v = .ref a ∧ FAt φ A H a k vs ∧ Reps K φ A H ws vs
  | .ref n, v => ∃ a, φ[n]? = some a ∧ v = .ref a
  | .scr ns, v => ∃ a, v = .ref a ∧ ScrAt K φ A H a (ns.map V.int)
def Reps (K : PySem.W.Frag) (φ : List Addr) (A : Addr → Prop) (H : Hp) : List W → List V → Prop
  | [], vs => vs = []
  | w :: ws, vs => ∃ v r, vs = v :: r ∧ Rep K φ A H w v ∧ Reps K φ A H ws r
end
end

/-- the heap went on: φ grew by new addresses, what stood stands, tuples and marks and what is neither in φ nor owned is as it was -/
structure Ext (φ : List Addr) (B : Addr → Prop) (H : Hp) (φ' : List Addr) (H' : Hp) : Prop where
  pre : φ <+: φ'
  new : ∀ a, a ∈ φ' → a ∈ φ ∨ H a = none
  dom : ∀ a o, H a = some o → ∃ o', H' a = some o'
  tup : ∀ a xs, H a = some (.tup xs) → H' a = some (.tup xs)
  mrk : ∀ a x, H a = some (.own x) → H' a = some (.own x)
  frm : ∀ a o, H a = some o → a ∉ φ → ¬ B a → H' a = some o

theorem Ext.refl {φ B H} : Ext φ B H φ H := ⟨⟨[], by simp⟩, fun _ h => .inl h, fun _ o h => ⟨o, h⟩, fun _ _ h => h, fun _ _ h => h, fun _ _ h _ _ => h⟩
theorem Ext.notin {φ B H φ' H'} (e : Ext φ B H φ' H') {a : Addr} {o : HO} (h : H a = some o) (n : a ∉ φ) : a ∉ φ' := fun m => by
  rcases e.new a m with q | q
  · exact n q
  · rw [h] at q; cases q
theorem Ext.trans {φ B H φ1 B1 H1 φ2 H2} (e : Ext φ B H φ1 H1) (f : Ext φ1 B1 H1 φ2 H2) (hb : ∀ a, B1 a → B a) : Ext φ B H φ2 H2 where
  pre := e.pre.trans f.pre
  new := fun a m => by
    rcases f.new a m with q | q
    · exact e.new a q
    · right
      cases r : H a with
      | none => rfl
      | some o =>
        obtain ⟨o', z⟩ := e.dom a o r
        rw [q] at z; cases z
  dom := fun a o h => by
    obtain ⟨o', q⟩ := e.dom a o h
    exact f.dom a o' q
  tup := fun a xs h => f.tup a xs (e.tup a xs h)
  mrk := fun a xs h => f.mrk a xs (e.mrk a xs h)
  frm := fun a o h n b => f.frm a o (e.frm a o h n b) (e.notin h n) fun z => b (hb a z)
theorem Ext.weak {φ B B' H φ' H'} (e : Ext φ B H φ' H') (hb : ∀ a, B a → B' a) : Ext φ B' H φ' H' :=
  ⟨e.pre, e.new, e.dom, e.tup, e.mrk, fun a o h n b => e.frm a o h n fun z => b (hb a z)⟩
/-- a new object -/
theorem Ext.upd {φ B H} {p : Addr} {o : HO} (h : H p = none) : Ext φ B H φ (upd H p o) :=
  ⟨⟨[], by simp⟩, fun _ h => .inl h, fun a o' q => ⟨o', by rw [upd_ne (ne_of_none q h)]; exact q⟩, fun a xs q => by rw [upd_ne (ne_of_none q h)]; exact q, fun a xs q => by rw [upd_ne (ne_of_none q h)]; exact q,
    fun a o' q _ _ => by rw [upd_ne (ne_of_none q h)]; exact q⟩
/-- an object of φ, or owned, is written -/
theorem Ext.put {φ : List Addr} {B : Addr → Prop} {H : Hp} {p : Addr} {o u : HO} (h : H p = some u) (w : Wr u) (hp : p ∈ φ ∨ B p) : Ext φ B H φ (L2.upd H p o) := by
  refine ⟨⟨[], by simp⟩, fun _ h => .inl h, fun a o' q => ?_, fun a xs q => ?_, fun a x q => ?_, fun a o' q n b => ?_⟩
  · by_cases e : a = p
    · exact ⟨o, by rw [e]; exact upd_same⟩
    · exact ⟨o', by rw [upd_ne e]; exact q⟩
  · rw [upd_ne (ne_wr q h w)]; exact q
  · rw [upd_ne (ne_wro q h w)]; exact q
  · have e : a ≠ p := fun e => by
      rw [e] at n b
      exact hp.elim n b
    rw [upd_ne e]; exact q

theorem pre_get {φ φ' : List Addr} (h : φ <+: φ') {n : Nat} {a : Addr} (e : φ[n]? = some a) : φ'[n]? = some a := by
  obtain ⟨t, rfl⟩ := h
  rw [List.getElem?_append_left (List.getElem?_eq_some_iff.mp e).1]; exact e
theorem Ext.tat {K φ B H φ' H'} (e : Ext φ B H φ' H') {a : Addr} {vs : List V} (h : TAt K H a vs) : TAt K H' a vs := by
  refine ⟨?_, h.2⟩
  rcases h.1 with h | h
  · exact .inl (e.tup a vs h)
  · exact .inr h
theorem Ext.fat [Cs] {φ A B H φ' H'} (e : Ext φ B H φ' H') (hb : ∀ a, B a → A a) {a : Addr} {k : OK} {vs : List V} (h : FAt φ A H a k vs) : FAt φ' A H' a k vs := by
  obtain ⟨o, q, i, z⟩ := h.at_
  exact ⟨⟨o, e.frm a o q h.nf fun z => h.na (hb a z), i.keep e.mrk, z⟩, e.notin q h.nf, h.na⟩
/-- an object that nobody writes -/
theorem At.ext [Cs] {φ B H φ' H'} {a : Addr} {k : OK} {vs : List V} (h : At H a k vs) (e : Ext φ B H φ' H') (n : a ∉ φ) (b : ¬ B a) : At H' a k vs := by
  obtain ⟨o, q, i, z⟩ := h
  exact ⟨o, e.frm a o q n b, i.keep e.mrk, z⟩
theorem At.notin [Cs] {φ B H φ' H'} {a : Addr} {k : OK} {vs : List V} (h : At H a k vs) (e : Ext φ B H φ' H') (n : a ∉ φ) : a ∉ φ' := by
  obtain ⟨o, q, _⟩ := h
  exact e.notin q n
theorem At.put [Cs] {H : Hp} {a p : Addr} {o u : HO} {k : OK} {vs : List V} (h : At H a k vs) (h0 : H p = some u) (hw : Wr u) (ne : a ≠ p) : At (L2.upd H p o) a k vs := by
  obtain ⟨x, q, i, z⟩ := h
  exact ⟨x, by rw [upd_ne ne]; exact q, i.keep fun d x q => by rw [upd_ne (ne_wro q h0 hw)]; exact q, z⟩
theorem At.upd [Cs] {H : Hp} {p a : Addr} {o : HO} {k : OK} {vs : List V} (h : At H a k vs) (h0 : H p = none) : At (L2.upd H p o) a k vs := by
  obtain ⟨u, e, i, z⟩ := h
  exact ⟨u, by rw [upd_ne (ne_of_none e h0)]; exact e, i.keep (Ext.upd (φ := []) (B := fun _ => False) h0).mrk, z⟩
theorem At.ne [Cs] {H : Hp} {p a : Addr} {k : OK} {vs : List V} (h : At H a k vs) (h0 : H p = none) : a ≠ p := by
  obtain ⟨u, e, _⟩ := h
  exact ne_of_none e h0
theorem Ext.scr {K φ A B H φ' H'} (e : Ext φ B H φ' H') (hb : ∀ a, B a → A a) {a : Addr} {vs : List V} (h : ScrAt K φ A H a vs) : ScrAt K φ' A H' a vs := by
  rcases h with ⟨o, u, h, n, na, q⟩ | h
  · subst q
    exact .inl ⟨o, _, e.frm a _ h n fun z => na (hb a z), e.notin h n, na, rfl⟩
  · exact .inr h
section
variable [Cs]
mutual
theorem Rep.ext {K φ A B H φ' H'} (e : Ext φ B H φ' H') (hb : ∀ a, B a → A a) : ∀ {w : W} {v : V}, Rep K φ A H w v → Rep K φ' A H' w v
  | .non, _, h => by unfold Rep at h ⊢; exact h
  | .bl _, _, h => by unfold Rep at h ⊢; exact h
  | .int _, _, h => by unfold Rep at h ⊢; exact h
  | .str _, _, h => by unfold Rep at h ⊢; exact h
  | .tup ws, _, h => by
    unfold Rep at h ⊢
    obtain ⟨a, vs, r, t, q⟩ := h
    exact ⟨a, vs, r, e.tat t, Reps.ext e hb q⟩
  | .obj k ws, _, h => by
    unfold Rep at h ⊢
    obtain ⟨a, vs, r, t, q⟩ := h
    exact ⟨a, vs, r, e.fat hb t, Reps.ext e hb q⟩
  | .ref n, _, h => by
    unfold Rep at h ⊢
    obtain ⟨a, r, t⟩ := h
    exact ⟨a, pre_get e.pre r, t⟩
  | .scr ns, _, h => by
    unfold Rep at h ⊢
    obtain ⟨a, r, t⟩ := h
    exact ⟨a, r, e.scr hb t⟩
theorem Reps.ext {K φ A B H φ' H'} (e : Ext φ B H φ' H') (hb : ∀ a, B a → A a) : ∀ {ws : List W} {vs : List V}, Reps K φ A H ws vs → Reps K φ' A H' ws vs
  | [], _, h => by unfold Reps at h ⊢; exact h
  | w :: ws, _, h => by
    unfold Reps at h ⊢
    obtain ⟨v, r, q, h1, h2⟩ := h
    exact ⟨v, r, q, Rep.ext e hb h1, Reps.ext e hb h2⟩
end
mutual
theorem Rep.anti {K φ A A' H} (hb : ∀ a, A' a → A a) : ∀ {w : W} {v : V}, Rep K φ A H w v → Rep K φ A' H w v
  | .non, _, h => by unfold Rep at h ⊢; exact h
  | .bl _, _, h => by unfold Rep at h ⊢; exact h
  | .int _, _, h => by unfold Rep at h ⊢; exact h
  | .str _, _, h => by unfold Rep at h ⊢; exact h
  | .tup ws, _, h => by
    unfold Rep at h ⊢
    obtain ⟨a, vs, r, t, q⟩ := h
    exact ⟨a, vs, r, t, Reps.anti hb q⟩
  | .obj k ws, _, h => by
    unfold Rep at h ⊢
    obtain ⟨a, vs, r, t, q⟩ := h
    exact ⟨a, vs, r, ⟨t.at_, t.nf, fun z => t.na (hb a z)⟩, Reps.anti hb q⟩
  | .ref n, _, h => by unfold Rep at h ⊢; exact h
  | .scr ns, _, h => by
    unfold Rep at h ⊢
    obtain ⟨a, r, t⟩ := h
    refine ⟨a, r, ?_⟩
    rcases t with ⟨o, u, h, n, na, q⟩ | t
    · exact .inl ⟨o, u, h, n, fun z => na (hb a z), q⟩
    · exact .inr t
theorem Reps.anti {K φ A A' H} (hb : ∀ a, A' a → A a) : ∀ {ws : List W} {vs : List V}, Reps K φ A H ws vs → Reps K φ A' H ws vs
  | [], _, h => by unfold Reps at h ⊢; exact h
  | w :: ws, _, h => by
    unfold Reps at h ⊢
    obtain ⟨v, r, q, h1, h2⟩ := h
    exact ⟨v, r, q, Rep.anti hb h1, Reps.anti hb h2⟩
end
/- a new address p (nothing stood there) is avoided by all that is represented -/
mutual
theorem Rep.fresh {K φ A H p o} (h0 : H p = none) : ∀ {w : W} {v : V}, Rep K φ A H w v → Rep K φ (fun a => A a ∨ a = p) (upd H p o) w v
  | .non, _, h => by unfold Rep at h ⊢; exact h
  | .bl _, _, h => by unfold Rep at h ⊢; exact h
  | .int _, _, h => by unfold Rep at h ⊢; exact h
  | .str _, _, h => by unfold Rep at h ⊢; exact h
  | .tup ws, _, h => by
    unfold Rep at h ⊢
    obtain ⟨a, vs, r, t, q⟩ := h
    exact ⟨a, vs, r, (Ext.upd (φ := φ) (B := A) h0).tat t, Reps.fresh h0 q⟩
  | .obj k ws, _, h => by
    unfold Rep at h ⊢
    obtain ⟨a, vs, r, t, q⟩ := h
    exact ⟨a, vs, r, ⟨t.at_.upd h0, t.nf, fun z => z.elim t.na (t.at_.ne h0)⟩, Reps.fresh h0 q⟩
  | .ref n, _, h => by unfold Rep at h ⊢; exact h
  | .scr ns, _, h => by
    unfold Rep at h ⊢
    obtain ⟨a, r, t⟩ := h
    refine ⟨a, r, ?_⟩
    rcases t with ⟨o', u, h, n, na, q⟩ | t
    · have ne := ne_of_none h h0
      exact .inl ⟨o', u, by rw [upd_ne ne]; exact h, n, fun z => z.elim na ne, q⟩
    · exact .inr t
theorem Reps.fresh {K φ A H p o} (h0 : H p = none) : ∀ {ws : List W} {vs : List V}, Reps K φ A H ws vs → Reps K φ (fun a => A a ∨ a = p) (upd H p o) ws vs
  | [], _, h => by unfold Reps at h ⊢; exact h
  | w :: ws, _, h => by
    unfold Reps at h ⊢
    obtain ⟨v, r, q, h1, h2⟩ := h
    exact ⟨v, r, q, Rep.fresh h0 h1, Reps.fresh h0 h2⟩
end
mutual
theorem Rep.apart' {K φ A H} : ∀ {w : W} {v : V}, Rep K φ A H w v → Rep K φ (fun a => A a ∨ H a = none) H w v
  | .non, _, h => by unfold Rep at h ⊢; exact h
  | .bl _, _, h => by unfold Rep at h ⊢; exact h
  | .int _, _, h => by unfold Rep at h ⊢; exact h
  | .str _, _, h => by unfold Rep at h ⊢; exact h
  | .tup ws, _, h => by
    unfold Rep at h ⊢
    obtain ⟨a, vs, r, t, q⟩ := h
    exact ⟨a, vs, r, t, Reps.apart' q⟩
  | .obj k ws, _, h => by
    unfold Rep at h ⊢
    obtain ⟨a, vs, r, t, q⟩ := h
    obtain ⟨ob, e0, _⟩ := t.at_
    exact ⟨a, vs, r, ⟨t.at_, t.nf, fun z => z.elim t.na fun e => (by rw [e0] at e; cases e)⟩, Reps.apart' q⟩
  | .ref n, _, h => by unfold Rep at h ⊢; exact h
  | .scr ns, _, h => by
    unfold Rep at h ⊢
    obtain ⟨a, r, t⟩ := h
    refine ⟨a, r, ?_⟩
    rcases t with ⟨o', u, h, n, na, q⟩ | t
    · exact .inl ⟨o', u, h, n, fun z => z.elim na fun e => (by rw [h] at e; cases e), q⟩
    · exact .inr t
theorem Reps.apart' {K φ A H} : ∀ {ws : List W} {vs : List V}, Reps K φ A H ws vs → Reps K φ (fun a => A a ∨ H a = none) H ws vs
  | [], _, h => by unfold Reps at h ⊢; exact h
  | w :: ws, _, h => by
    unfold Reps at h ⊢
    obtain ⟨v, r, q, h1, h2⟩ := h
    exact ⟨v, r, q, Rep.apart' h1, Reps.apart' h2⟩
end
theorem Rep.apart {K φ A H p} (h0 : H p = none) {w : W} {v : V} (h : Rep K φ A H w v) : Rep K φ (fun a => A a ∨ a = p) H w v :=
  h.apart'.anti fun a z => z.elim .inl fun e => .inr (by rw [e]; exact h0)
theorem Reps.apart {K φ A H p} (h0 : H p = none) {w : List W} {v : List V} (h : Reps K φ A H w v) : Reps K φ (fun a => A a ∨ a = p) H w v :=
  h.apart'.anti fun a z => z.elim .inl fun e => .inr (by rw [e]; exact h0)
/-- later: the heap went on, what is avoided then was avoided before or is new -/
theorem Rep.later {K φ A B H φ' A' H'} {w : W} {v : V} (h : Rep K φ A H w v) (e : Ext φ B H φ' H') (hb : ∀ a, B a → A a) (ha : ∀ a, A' a → A a ∨ H a = none) : Rep K φ' A' H' w v :=
  (h.apart'.ext e fun a z => .inl (hb a z)).anti ha
theorem Reps.later {K φ A B H φ' A' H'} {w : List W} {v : List V} (h : Reps K φ A H w v) (e : Ext φ B H φ' H') (hb : ∀ a, B a → A a) (ha : ∀ a, A' a → A a ∨ H a = none) : Reps K φ' A' H' w v :=
  (h.apart'.ext e fun a z => .inl (hb a z)).anti ha
/- a list that is avoided, or of the store, is written -/
mutual
theorem Rep.put {K φ A H p o u} (h0 : H p = some u) (hw : Wr u) (hp : A p ∨ p ∈ φ) : ∀ {w : W} {v : V}, Rep K φ A H w v → Rep K φ A (upd H p o) w v
  | .non, _, h => by unfold Rep at h ⊢; exact h
  | .bl _, _, h => by unfold Rep at h ⊢; exact h
  | .int _, _, h => by unfold Rep at h ⊢; exact h
  | .str _, _, h => by unfold Rep at h ⊢; exact h
  | .tup ws, _, h => by
    unfold Rep at h ⊢
    obtain ⟨a, vs, r, t, q⟩ := h
    refine ⟨a, vs, r, ⟨?_, t.2⟩, Reps.put h0 hw hp q⟩
    rcases t.1 with t | t
    · exact .inl (by rw [upd_ne (ne_wr t h0 hw)]; exact t)
    · exact .inr t
  | .obj k ws, _, h => by
    unfold Rep at h ⊢
    obtain ⟨a, vs, r, t, q⟩ := h
    have ne : a ≠ p := fun e => by
      subst e
      exact hp.elim t.na t.nf
    exact ⟨a, vs, r, ⟨t.at_.put h0 hw ne, t.nf, t.na⟩, Reps.put h0 hw hp q⟩
  | .ref n, _, h => by unfold Rep at h ⊢; exact h
  | .scr ns, _, h => by
    unfold Rep at h ⊢
    obtain ⟨a, r, t⟩ := h
    refine ⟨a, r, ?_⟩
    rcases t with ⟨o', u, h, n, na, q⟩ | t
    · have ne : a ≠ p := fun e => by
        subst e
        exact hp.elim na n
      exact .inl ⟨o', u, by rw [upd_ne ne]; exact h, n, na, q⟩
    · exact .inr t
theorem Reps.put {K φ A H p o u} (h0 : H p = some u) (hw : Wr u) (hp : A p ∨ p ∈ φ) : ∀ {ws : List W} {vs : List V}, Reps K φ A H ws vs → Reps K φ A (upd H p o) ws vs
  | [], _, h => by unfold Reps at h ⊢; exact h
  | w :: ws, _, h => by
    unfold Reps at h ⊢
    obtain ⟨v, r, q, h1, h2⟩ := h
    exact ⟨v, r, q, Rep.put h0 hw hp h1, Reps.put h0 hw hp h2⟩
end
/- a hidden list joins the store -/
mutual
theorem Rep.grow {K φ A H p} : ∀ {w : W} {v : V}, Rep K φ (fun a => A a ∨ a = p) H w v → Rep K (φ ++ [p]) A H w v
  | .non, _, h => by unfold Rep at h ⊢; exact h
  | .bl _, _, h => by unfold Rep at h ⊢; exact h
  | .int _, _, h => by unfold Rep at h ⊢; exact h
  | .str _, _, h => by unfold Rep at h ⊢; exact h
  | .tup ws, _, h => by
    unfold Rep at h ⊢
    obtain ⟨a, vs, r, t, q⟩ := h
    exact ⟨a, vs, r, t, Reps.grow q⟩
  | .obj k ws, _, h => by
    unfold Rep at h ⊢
    obtain ⟨a, vs, r, t, q⟩ := h
    refine ⟨a, vs, r, ⟨t.at_, fun m => ?_, fun z => t.na (.inl z)⟩, Reps.grow q⟩
    rcases List.mem_append.mp m with m | m
    · exact t.nf m
    · exact t.na (.inr (by simpa using m))
  | .ref n, _, h => by
    unfold Rep at h ⊢
    obtain ⟨a, r, t⟩ := h
    exact ⟨a, pre_get ⟨[p], rfl⟩ r, t⟩
  | .scr ns, _, h => by
    unfold Rep at h ⊢
    obtain ⟨a, r, t⟩ := h
    refine ⟨a, r, ?_⟩
    rcases t with ⟨o', u, h, n, na, q⟩ | t
    · refine .inl ⟨o', u, h, fun m => ?_, fun z => na (.inl z), q⟩
      rcases List.mem_append.mp m with m | m
      · exact n m
      · exact na (.inr (by simpa using m))
    · exact .inr t
theorem Reps.grow {K φ A H p} : ∀ {ws : List W} {vs : List V}, Reps K φ (fun a => A a ∨ a = p) H ws vs → Reps K (φ ++ [p]) A H ws vs
  | [], _, h => by unfold Reps at h ⊢; exact h
  | w :: ws, _, h => by
    unfold Reps at h ⊢
    obtain ⟨v, r, q, h1, h2⟩ := h
    exact ⟨v, r, q, Rep.grow h1, Reps.grow h2⟩
end
section
variable {K : PySem.W.Frag} {φ : List Addr} {A : Addr → Prop} {H : Hp}
theorem Reps.nil : Reps K φ A H [] [] := by unfold Reps; rfl
theorem Reps.cons {w v ws vs} (h : Rep K φ A H w v) (r : Reps K φ A H ws vs) : Reps K φ A H (w :: ws) (v :: vs) := by unfold Reps; exact ⟨v, vs, rfl, h, r⟩
theorem Reps.length : ∀ {ws : List W} {vs : List V}, Reps K φ A H ws vs → vs.length = ws.length
  | [], _, h => by unfold Reps at h; subst h; rfl
  | _ :: ws, _, h => by
    unfold Reps at h
    obtain ⟨v, r, rfl, _, q⟩ := h
    simp [Reps.length q]
theorem Reps.get : ∀ {ws : List W} {vs : List V} {i : Nat} {w : W}, Reps K φ A H ws vs → ws[i]? = some w → ∃ v, vs[i]? = some v ∧ Rep K φ A H w v
  | [], _, _, _, _, e => by simp at e
  | w :: ws, _, 0, _, h, e => by
    unfold Reps at h
    obtain ⟨v, r, rfl, q, _⟩ := h
    simp at e; subst e
    exact ⟨v, rfl, q⟩
  | w :: ws, _, i + 1, _, h, e => by
    unfold Reps at h
    obtain ⟨v, r, rfl, _, q⟩ := h
    obtain ⟨v', h1, h2⟩ := Reps.get (i := i) q (by simpa using e)
    exact ⟨v', by simpa using h1, h2⟩
theorem Reps.get' : ∀ {ws : List W} {vs : List V} {i : Nat} {v : V}, Reps K φ A H ws vs → vs[i]? = some v → ∃ w, ws[i]? = some w ∧ Rep K φ A H w v := fun {ws vs i v} h e => by
  have hl := h.length
  have hi : i < ws.length := by rw [← hl]; exact (List.getElem?_eq_some_iff.mp e).1
  obtain ⟨v', h1, h2⟩ := h.get (List.getElem?_eq_getElem hi)
  rw [h1] at e; cases e
  exact ⟨_, List.getElem?_eq_getElem hi, h2⟩
theorem Reps.append : ∀ {ws ws' : List W} {vs vs' : List V}, Reps K φ A H ws vs → Reps K φ A H ws' vs' → Reps K φ A H (ws ++ ws') (vs ++ vs')
  | [], _, _, _, h, r => by unfold Reps at h; subst h; exact r
  | w :: ws, _, _, _, h, r => by
    unfold Reps at h
    obtain ⟨v, q, rfl, h1, h2⟩ := h
    exact Reps.cons h1 (Reps.append h2 r)
theorem Reps.drop : ∀ {ws : List W} {vs : List V} (n : Nat), Reps K φ A H ws vs → Reps K φ A H (ws.drop n) (vs.drop n)
  | _, _, 0, h => h
  | [], _, n + 1, h => by unfold Reps at h; subst h; exact Reps.nil
  | w :: ws, _, n + 1, h => by
    unfold Reps at h
    obtain ⟨v, q, rfl, h1, h2⟩ := h
    exact Reps.drop n h2
theorem Reps.take : ∀ {ws : List W} {vs : List V} (n : Nat), Reps K φ A H ws vs → Reps K φ A H (ws.take n) (vs.take n)
  | _, _, 0, _ => by simp [Reps.nil]
  | [], _, n + 1, h => by unfold Reps at h; subst h; exact Reps.nil
  | w :: ws, _, n + 1, h => by
    unfold Reps at h
    obtain ⟨v, q, rfl, h1, h2⟩ := h
    exact Reps.cons h1 (Reps.take n h2)
theorem Reps.erase : ∀ {ws : List W} {vs : List V} (n : Nat), Reps K φ A H ws vs → Reps K φ A H (ws.eraseIdx n) (vs.eraseIdx n)
  | [], _, _, h => by unfold Reps at h; subst h; exact Reps.nil
  | w :: ws, _, 0, h => by
    unfold Reps at h
    obtain ⟨v, q, rfl, h1, h2⟩ := h
    exact h2
  | w :: ws, _, n + 1, h => by
    unfold Reps at h
    obtain ⟨v, q, rfl, h1, h2⟩ := h
    exact Reps.cons h1 (Reps.erase n h2)
theorem Reps.set : ∀ {ws : List W} {vs : List V} (n : Nat) {w : W} {v : V}, Reps K φ A H ws vs → Rep K φ A H w v → Reps K φ A H (ws.set n w) (vs.set n v)
  | [], _, _, _, _, h, _ => by unfold Reps at h; subst h; exact Reps.nil
  | w :: ws, _, 0, _, _, h, r => by
    unfold Reps at h
    obtain ⟨v, q, rfl, h1, h2⟩ := h
    exact Reps.cons r h2
  | w :: ws, _, n + 1, _, _, h, r => by
    unfold Reps at h
    obtain ⟨v, q, rfl, h1, h2⟩ := h
    exact Reps.cons h1 (Reps.set n h2 r)
theorem Reps.rev : ∀ {ws : List W} {vs : List V}, Reps K φ A H ws vs → Reps K φ A H ws.reverse vs.reverse
  | [], _, h => by unfold Reps at h; subst h; exact Reps.nil
  | w :: ws, _, h => by
    unfold Reps at h
    obtain ⟨v, q, rfl, h1, h2⟩ := h
    rw [List.reverse_cons, List.reverse_cons]
    exact (Reps.rev h2).append (Reps.cons h1 Reps.nil)
theorem rep_int {v i} : Rep K φ A H (.int i) v ↔ v = .int i := by unfold Rep; exact Iff.rfl
theorem rep_bl {v b} : Rep K φ A H (.bl b) v ↔ v = .bl b := by unfold Rep; exact Iff.rfl
theorem rep_str {v s} : Rep K φ A H (.str s) v ↔ v = .str s ∧ PyData.strOk s = true := by unfold Rep; exact Iff.rfl
theorem rep_non {v} : Rep K φ A H .non v ↔ v = .non := by unfold Rep; exact Iff.rfl
theorem rep_tup {v ws} : Rep K φ A H (.tup ws) v ↔ ∃ a vs, v = .ref a ∧ TAt K H a vs ∧ Reps K φ A H ws vs := by rw [Rep]
theorem rep_obj {v k ws} : Rep K φ A H (.obj k ws) v ↔ ∃ a vs, v = .ref a ∧ FAt φ A H a k vs ∧ Reps K φ A H ws vs := by rw [Rep]
theorem rep_ref {v n} : Rep K φ A H (.ref n) v ↔ ∃ a, φ[n]? = some a ∧ v = .ref a := by rw [Rep]
theorem rep_scr {v ns} : Rep K φ A H (.scr ns) v ↔ ∃ a, v = .ref a ∧ ScrAt K φ A H a (ns.map V.int) := by rw [Rep]
end

/-! ### frames and stores -/
/-- the address of a list that a slot alone holds -/
def OE (env : Env') (σ : St) (a : Addr) : Prop := ∃ (i : Nat) (k : OK) (ws : List W), env[i]? = some (some (.own k ws)) ∧ σ[i]? = some (some (.ref a))
/-- what no represented value touches: the slots' own lists, and the hidden ones -/
def AV (Z : Addr → Prop) (env : Env') (σ : St) (a : Addr) : Prop := Z a ∨ OE env σ a
def SlotOk (K : PySem.W.Frag) (φ : List Addr) (A : Addr → Prop) (H : Hp) : Sl → Option V → Prop
  | .val w, v => ∃ u, v = some u ∧ Rep K φ A H w u
  | .own k ws, v => ∃ a vs, v = some (.ref a) ∧ a ∉ φ ∧ At H a k vs ∧ Reps K φ A H ws vs
def ObjAt (K : PySem.W.Frag) (φ : List Addr) (A : Addr → Prop) (H : Hp) (so : SO) (a : Addr) : Prop := ∃ vs, At H a so.k vs ∧ Reps K φ A H so.ws vs
structure RelS (K : PySem.W.Frag) (φ : List Addr) (A : Addr → Prop) (H : Hp) (S : List SO) : Prop where
  len : φ.length = S.length
  nd : φ.Nodup
  av : ∀ a ∈ φ, ¬ A a
  obj : ∀ (n : Nat) a so, φ[n]? = some a → S[n]? = some so → ObjAt K φ A H so a
structure Rel (K : PySem.W.Frag) (φ : List Addr) (Z : Addr → Prop) (st : ST) (σ : St) (H : Hp) : Prop where
  sto : RelS K φ (AV Z st.env σ) H st.sto
  len : st.env.length = σ.length
  env : ∀ (i : Nat) s, st.env[i]? = some (some s) → ∃ v, σ[i]? = some v ∧ SlotOk K φ (AV Z st.env σ) H s v
  dis : ∀ (i j : Nat) k k' ws ws' a, st.env[i]? = some (some (.own k ws)) → st.env[j]? = some (some (.own k' ws')) → σ[i]? = some (some (.ref a)) → σ[j]? = some (some (.ref a)) → i = j
  hid : ∀ a, OE st.env σ a → ¬ Z a
  zd : ∀ a, Z a → ∃ o, H a = some o
end
end LL

set_option Elab.async false
set_option linter.all false
set_option maxRecDepth 100000
set_option maxHeartbeats 4000000
/-! LLo: how many words a tuple holds, by set. -/
namespace LL
open PySem L2 PySem.Spec

/-- how many of the first i words are new -/
def news (xs : List Str) : Nat → Nat
  | 0 => 0
  | i + 1 => if decide (xs.getD i Str.empty ∈ xs.take i) = true then news xs i else news xs i + 1
theorem news_le (xs : List Str) : ∀ i, news xs i ≤ i
  | 0 => Nat.le_refl 0
  | i + 1 => by
    have := news_le xs i
    unfold news
    split <;> omega
section
variable {P : Program} {w : World} {A : Around} {E : Value → Shared → Prop} {s : Shared}
/-- the object of an empty set -/
abbrev nuS (led : Bool) : Obj := { cls := .type "set", dict := none, data := .set #[] 0 (.fresh 0 0 led) }
abbrev HS (P : Program) (w : World) (h : Heap) (a : Addr) (xs : List Str) (i : Nat) : Prop := h.SetOf (PySem.strKind P w) a (fun k => decide (k ∈ xs.take i)) (news xs i)
theorem HS.mv {h h' : Heap} {a : Addr} {xs : List Str} {i : Nat} (x : HS P w h a xs i) (k : ∀ o, h.get? a = some o → h'.get? a = some o) : HS P w h' a xs i := by
  obtain ⟨o, es, ep, t, q, rest⟩ := x
  exact ⟨o, es, ep, t, k o q, rest⟩
theorem set_loop {I : Addr} {fp wr : List Addr} {G : Array GenState → Array GenState → Prop} {n : Nat} {Pv : Nat → Value → Prop} {St : Nat → Shared → Prop} {R : Result → Shared → Prop} (W : PySem.WalksS P w A.in1 I fp wr G n Pv St) {S : Addr} (hf : S ∉ fp) {xs : List Str} (hn : xs.length = n) (hb : n + 1 < scanBound)
    (hv : ∀ i v, Pv i v → ∃ t, v = .str (xs.getD i Str.empty) t) : ∀ (m i : Nat) (s : Shared), n = m + i → St i s → HS P w s.heap S xs i →
      (∀ s', Moved (S :: wr) G s s' → HS P w s'.heap S xs n → R (.ok (.ret .none)) s') → codeAny (model P w) A (.builtin "set.update.loop" ⟨[.ref S, .ref I], []⟩) R s := by
  have hw : S ∉ wr := fun z => hf (W.sub _ z)
  have up : ∀ b ∈ wr, b ∈ S :: wr := fun b z => List.mem_cons_of_mem _ z
  intro m
  induction m with
  | zero =>
    intro i s e st hs k
    rw [Nat.zero_add] at e
    subst e
    refine codeAny_builtin PyProof.Rows.F.entry_set_update_loop ?_
    rw [Around.under_plainId PyProof.Rows.F.plain_set_update_loop _]
    refine (show wpAny _ A.in1 (pyNext (.ref I) >>= _) _ _ s from ?_)
    exact wpAny_bind (W.done s _ _ st fun s' mv => wpAny_pure (k s' (mv.mono up) (hs.mv fun o q => mv.heap S o hw q)))
  | succ m ih =>
    intro i s e st hs k
    have hi : i < n := by omega
    refine codeAny_builtin PyProof.Rows.F.entry_set_update_loop ?_
    rw [Around.under_plainId PyProof.Rows.F.plain_set_update_loop _]
    refine (show wpAny _ A.in1 (pyNext (.ref I) >>= _) _ _ s from ?_)
    refine wpAny_bind (W.item i s _ _ hi st fun v s' pv st' mv => ?_)
    obtain ⟨t, rfl⟩ := hv i v pv
    have hs' : HS P w s'.heap S xs i := hs.mv fun o q => mv.heap S o hw q
    refine (show wpAny _ A.in1 (holding [Value.str (xs.getD i Str.empty) t] (setAdd S (.str (xs.getD i Str.empty) t)) >>= _) _ _ s' from ?_)
    refine wpAny_bind (wpAny_holding ?_)
    unfold setAdd
    refine wpAny_holding (wpAny_bind ((PySem.strKind P w).pyHash (k := xs.getD i Str.empty) (strKind_is _ _ _ _) ?_))
    have hr : news xs i + 1 < scanBound := by have := news_le xs i; omega
    refine wpAny_setAddHashed_of (s := { s' with toks := s'.toks + 1 }) (knd := PySem.strKind P w) (strKind_is _ _ _ _) rfl hs' hr fun h2 sb hs2 => ?_
    have hs3 : HS P w h2 S xs (i + 1) := by
      refine PyProof.Rows.SetOf_congr hs2 (fun k => ?_) ?_
      · have hx : xs[i]? = some (xs.getD i Str.empty) := by
          have h' : i < xs.length := by omega
          rw [List.getD_eq_getElem?_getD, List.getElem?_eq_getElem h']; rfl
        rw [List.take_add_one, hx]
        simp [List.mem_append]
      · rw [news]
    refine wpAny_pure ⟨plainId_quiet PyProof.Rows.F.plain_set_update_loop _, ih (i + 1) _ (by omega) (W.frame _ s' _ _ st' (Nat.le_succ _) fun b mb o q => ?_) hs3 fun s3 mv3 hs4 => k s3 ?_ hs4⟩
    · have nb : b ≠ S := fun z => hf (by rw [← z]; exact mb)
      rw [sb.2 b nb]; exact q
    · refine Moved.trans W.gtrans ((mv.mono up).then_heap (Nat.le_succ _) fun b o nb q => ?_) mv3
      have nb' : b ≠ S := fun z => nb (by rw [z]; exact List.mem_cons_self)
      rw [sb.2 b nb']; exact q
/-- set(..) of a tuple of words -/
theorem set_tup {l : Addr} {its : Array Value} {xs : List Str} {Q : Value → Shared → Prop} (hh : A.handled = none) (hl : s.heap.IsTuple l its) (hi : PyProof.Rows.StrsAre its.toList xs) (hb : xs.length + 1 < scanBound)
    (q : ∀ (h' : Heap) (tk : Nat), HS P w h' s.heap.objs.size xs xs.length → (∀ b o, s.heap.get? b = some o → h'.get? b = some o) → Q (.ref s.heap.objs.size) { s with heap := h', toks := tk }) :
    wpAny (model P w) A (call (.type "set") [.ref l]) Q E s := by
  have hz : xs.length = its.size := by rw [← PyProof.Rows.StrsAre.len_eq hi, Array.length_toList]
  obtain ⟨c, tl, mro⟩ := PySem.F.called_set.mro
  have made := PySem.F.called_set.made
  have isub := PySem.F.called_set.sub
  refine wpAny_call (codeAny_of_tree ?_)
  refine (show wpAny _ _ (callAny (.type "set") _) _ _ _ from ?_)
  refine wpAny_pure ⟨Code.quiet_builtin _ (by decide +kernel), codeAny_builtin PySem.F.entry_type_call ?_⟩
  rw [Around.under_plain (weight_type_call_type "set" [.ref l] []) rfl]
  have g1 := PySem.F.called_set.notType
  have g2 := PySem.F.called_set.canCreate
  have g3 := PySem.F.typeCall_set_1 (.ref l)
  repeat (any_goals (first | assumption | wp_step))
  refine codeAny_mono (code_set_new_1 (.ref l) (E := E) (Q₁ := fun ob s1 => ∃ led : Bool, ob = .ref s.heap.objs.size ∧ s1 = { s with heap := s.heap.push (nuS led) }) fun led => ⟨led, rfl, rfl⟩) fun r s1 hr => ?_
  cases r with
  | error e => exact hr
  | ok fl =>
    cases fl with
    | ret ob =>
      obtain ⟨led, rfl, rfl⟩ := hr
      have oS : (s.heap.push (nuS led)).get? s.heap.objs.size = some (nuS led) := Heap.get?_push_size _ rfl
      have tS : Shared.TypeIs { s with heap := s.heap.push (nuS led) } (.ref s.heap.objs.size) "set" := ⟨_, oS, rfl⟩
      have g4 := PySem.F.called_set.init.lookup
      have g5 := PySem.F.called_set.init.bind (.ref s.heap.objs.size)
      repeat (any_goals (first | assumption | wp_step))
      refine codeAny_mono (codeAny_call_builtin (R := wants (fun r s2 => r = .none ∧ ∃ h' tk, s2 = { s with heap := h', toks := tk } ∧ HS P w h' s.heap.objs.size xs xs.length ∧ (∀ b o, s.heap.get? b = some o → h'.get? b = some o)) E) PySem.F.called_set.init.plain PySem.F.entry_set_init (check_set_init_1 tS ?_)) fun r2 s2 hr2 => ?_
      · obtain ⟨⟨oc, od, odt, osl⟩, ho, hc, nl, hd⟩ := hl
        simp only at hc hd
        subst hc hd
        have ho' : (s.heap.push (nuS led)).get? l = some { cls := .type "tuple", dict := od, data := .seq its nl, slots := osl } := Heap.get?_push_of_some _ ho
        have g6 := PySem.F.sub_tuple_set
        have g7 := PySem.F.sub_tuple_frozenset
        have g8 : (Value.type "tuple" == Value.type "dict") = false := by decide
        have tl1 : (s.heap.push (nuS led)).IsTuple l its := ⟨_, ho', rfl, nl, rfl⟩
        unfold Builtin.«set.__init__» noKeywords Builtin.Frozenset.updateFrom
        generalize hp : pyIter = PI
        wp_walk
        subst hp
        refine wpAny_pyIter_tuple tl1 (wpAny_bind (wpAny_runValue ?_))
        have lS : l < s.heap.objs.size := Heap.lt_size ho
        have h3 : A.in1.in1.in1.handled = none := by simp [hh]
        have zI : (s.heap.push (nuS led)).objs.size = s.heap.objs.size + 1 := Heap.size_push ..
        have nI : l ≠ (s.heap.push (nuS led)).objs.size := by rw [zI]; exact Nat.ne_of_lt (Nat.lt_succ_of_lt lS)
        have nS : s.heap.objs.size ∉ [(s.heap.push (nuS led)).objs.size, l] := by
          rw [zI]
          intro z
          rcases List.mem_cons.mp z with z | z
          · exact Nat.ne_of_lt (Nat.lt_succ_self _) z
          · exact Nat.ne_of_lt lS (List.mem_singleton.mp z).symm
        refine set_loop ((Walks.tuple h3 _ l nI its).toS) (S := s.heap.objs.size) nS hz (by omega) (fun i v e => SS.strs_at hi i v (by rw [Array.getElem?_toList]; exact e)) its.size 0 _ (by omega)
          ⟨⟨_, Heap.get?_push_size _ rfl, rfl, rfl⟩, (tl1.push _)⟩ ?_ ?_
        · have oS' : ((s.heap.push (nuS led)).push { cls := .type "tuple_iterator", data := .fields #[.ref l, .int 0 0] }).get? s.heap.objs.size = some (nuS led) := Heap.get?_push_of_some _ oS
          exact PyProof.Rows.SetOf_congr ((PyProof.Rows.setObjOf_fresh (knd := PySem.strKind P w) led).setOf oS' (by unfold scanBound; omega)) (fun k => by simp) rfl
        · intro s' mv hs
          obtain ⟨h', g', d', tk', os'⟩ := s'
          obtain rfl : g' = s.gens := mv.gens
          obtain rfl : d' = s.drawn := mv.drawn
          obtain rfl : os' = s.os := mv.os
          refine (show wpAny _ _ _ _ _ _ from wpAny_pure ?_)
          refine (show wpAny _ _ (ret Value.none) _ _ _ from wpAny_pure ⟨rfl, h', tk', rfl, by rw [← hz] at hs; exact hs, fun b o e => ?_⟩)
          have hb0 : b < s.heap.objs.size := Heap.lt_size e
          refine mv.heap b o (fun z => ?_) (Heap.get?_push_of_some _ (Heap.get?_push_of_some _ e))
          rcases List.mem_cons.mp z with z | z
          · exact Nat.ne_of_lt hb0 z
          · have z2 := List.mem_singleton.mp z
            rw [zI] at z2
            exact Nat.ne_of_lt (Nat.lt_succ_of_lt hb0) z2
      · cases r2 with
        | error e => exact hr2
        | ok fl2 =>
          cases fl2 with
          | ret r =>
            obtain ⟨rfl, h', tk, rfl, hs, hk⟩ := hr2
            repeat (any_goals (first | assumption | wp_step))
            exact q _ _ hs hk
          | _ => exact hr2.elim
    | _ => exact hr.elim
end
end LL

set_option Elab.async false
set_option linter.all false
set_option maxRecDepth 100000
set_option maxHeartbeats 4000000
/-! LLp: enumerate over a tuple. -/
namespace LL
open PySem L2 PySem.Spec AutoSeq1
section
variable {P : Program} {w : World} {A : Around} {E : Value → Shared → Prop} {s : Shared}
/-- a tuple's iterator drawn from within -/
theorem tupDraw (hh : A.handled = none) (it t : Addr) (ne : t ≠ it) (vs : Array Value) : PySem.Draws P w A it [it, t] vs.size (fun i v => vs[i]? = some v) fun i h => h.IsTupleIter it t i ∧ h.IsTuple t vs where
  live := fun i h st => st.1.elim fun o q => ⟨o, q.1⟩
  frame := fun i h h' st k => ⟨st.1.at fun o q => k it List.mem_cons_self o q, let ⟨o, q, r⟩ := st.2; ⟨o, k t (by simp) o q, r⟩⟩
  item := fun i s Q E hi st q => by
    obtain ⟨⟨o, ho, hc, hd⟩, ht⟩ := id st
    obtain ⟨ot, hot, _, nt, hdt⟩ := ht
    have tI := st.1.typeIs
    have hx : vs[i]? = some vs[i] := by simp [hi]
    unfold Builtin.SmallTypes.nextOf
    refine wpAny_bind (wpAny_callSpecial?_slot (name := Str.ofString "__next__") tI F.slot_tuple_iterator_next (wpAny_call_entry F.slot_tuple_iterator_next tI F.entry_tuple_iterator_next ?_ (F.args_tuple_iterator_next_1 _)))
    refine (show wpAny _ _ (field (.ref it) 0 >>= _) _ _ s from wpAny_bind (wpAny_field ho hd (x := .ref t) rfl ?_))
    refine (show wpAny _ _ (if (Value.ref t == Value.none) = true then _ else _) _ _ s from ?_)
    rw [if_neg (fun z : (Value.ref t == Value.none) = true => Bool.false_ne_true z)]
    refine (show wpAny _ _ (field (.ref it) 1 >>= _) _ _ s from wpAny_bind (wpAny_field ho hd (x := .int i 0) rfl ?_))
    refine (show wpAny _ _ (seqItems? (.ref t) >>= _) _ _ s from wpAny_bind (wpAny_seqItems hot hdt ?_))
    simp only [Int.toNat_natCast, hx]
    refine wpAny_bind (wpAny_setField ho hd (by simp) (wpAny_pure ⟨_, rfl, wpAny_pure (q _ _ s.toks hx ⟨?_, ?_⟩ (Heap.SameBut.update ..))⟩))
    · refine ⟨_, Heap.get?_update_self _ ho (Obj.isFreed_of_fields (Obj.data_mapFields hd _)), (Obj.cls_mapFields ..).trans hc, ?_⟩
      rw [Obj.data_mapFields hd]
      simp [rawInt]
    · exact st.2.extBut (Heap.SameBut.update ..).extBut ne
  done := fun s Q E st q => by
    obtain ⟨⟨o, ho, hc, hd⟩, ht⟩ := id st
    obtain ⟨ot, hot, _, nt, hdt⟩ := ht
    have tI := st.1.typeIs
    have hx : vs[vs.size]? = none := by simp
    unfold Builtin.SmallTypes.nextOf
    refine wpAny_bind (wpAny_callSpecial?_slot (name := Str.ofString "__next__") tI F.slot_tuple_iterator_next (wpAny_call_entry F.slot_tuple_iterator_next tI F.entry_tuple_iterator_next ?_ (F.args_tuple_iterator_next_1 _)))
    refine (show wpAny _ _ (field (.ref it) 0 >>= _) _ _ s from wpAny_bind (wpAny_field ho hd (x := .ref t) rfl ?_))
    refine (show wpAny _ _ (if (Value.ref t == Value.none) = true then _ else _) _ _ s from ?_)
    rw [if_neg (fun z : (Value.ref t == Value.none) = true => Bool.false_ne_true z)]
    refine (show wpAny _ _ (field (.ref it) 1 >>= _) _ _ s from wpAny_bind (wpAny_field ho hd (x := .int vs.size 0) rfl ?_))
    refine (show wpAny _ _ (seqItems? (.ref t) >>= _) _ _ s from wpAny_bind (wpAny_seqItems hot hdt ?_))
    simp only [Int.toNat_natCast, hx]
    refine wpAny_bind (wpAny_rule (wpAny_bind (wpAny_setField ho hd (by simp) ?_)))
    refine (show wpAny _ _ (newExc (.type "StopIteration") [] >>= _) _ _ _ from wpAny_bind ?_)
    simp only [newExc, newTuple]
    refine wpAny_bind (wpAny_newObj_type ?_ (by size_fits))
    refine wpAny_bind (m := firstArgMember _ _) (wpAny_of_eq (a := Value.none) (by first | rfl | (simp only [firstArgMember]; rfl)) (wpAny_newObj_type ?_ (by size_fits)))
    simp only [raiseNew]
    refine wpAny_bind (wpAny_handled ?_)
    rw [show A.in1.handled = none from hh]
    exact wpAny_bind (wpAny_pure (wpAny_throw (q _ _ (((Heap.SameBut.update ..).extBut.push _).push _) ⟨_, Heap.get?_push_size _ rfl, rfl⟩)))
/-- the objects that enumerate(t) makes -/
abbrev tiO (t : Addr) : Obj := { cls := .type "tuple_iterator", data := .fields #[.ref t, .int 0 0] }
abbrev enO (it : Addr) : Obj := { cls := .type "enumerate", data := .fields #[.none, .bool false, .ref it, rawInt 0, .none, .none] }
theorem enum_newT (t : Addr) (vs : Array Value) (n : Nat) (dd : Option Addr) (sl : Array (Option Value)) :
    Meets (Builtin.«enumerate.__new__» ⟨[.type "enumerate", .ref t], []⟩) (fun _ R s => s.heap.get? t = some { cls := .type "tuple", dict := dd, data := .seq vs n, slots := sl } ∧
      R (.ok (.ret (.ref (s.heap.push (tiO t)).objs.size))) { s with heap := (s.heap.push (tiO t)).push (enO s.heap.objs.size) }) :=
  .of_wp fun prog w A R s h => by
    obtain ⟨hp, g, d, tk, os⟩ := s
    obtain ⟨ht, h⟩ := h
    have sb := sub_enumerate
    have iT : Heap.IsTuple (Shared.heap ⟨hp, g, d, tk, os⟩) t vs := ⟨_, ht, rfl, n, rfl⟩
    wp_walk using wpAny_loadPart' ht
    refine wpAny_stack_any fun st => wpAny_pure ?_
    split
    · rename_i c _ _ _ _ _
      cases (c == Value.type "enumerate") <;>
      · wp_walk using wpAny_loadPart' ht, wpAny_pyIter_tuple iT
        exact ⟨_, rfl, h⟩
    · wp_walk using wpAny_loadPart' ht, wpAny_pyIter_tuple iT
      exact ⟨_, rfl, h⟩
theorem call_enumT {t : Addr} {vs : Array Value} {Q : Value → Shared → Prop} (ht : s.heap.IsTuple t vs)
    (h : ∀ h', IsEnum h' (s.heap.objs.size + 1) s.heap.objs.size 0 .none → h'.IsTupleIter s.heap.objs.size t 0 → (∀ b o, s.heap.get? b = some o → h'.get? b = some o) → Q (.ref (s.heap.objs.size + 1)) { s with heap := h' }) :
    wpAny (model P w) A (call (.type "enumerate") [.ref t]) Q E s := by
  obtain ⟨⟨c, dd, dt, sl⟩, ho, hc, n, hd⟩ := ht
  simp only at hc hd
  subst hc hd
  refine callType_new F.called_enumerate (by decide) (F.typeCall_enumerate_1 _) (F.newCall_enumerate_1 _) (fun ob => F.args_object_init_2 ob _) F.entry_enumerate_new (enum_newT t vs n dd sl) ⟨ho, ?_⟩
  have z : (s.heap.push (tiO t)).objs.size = s.heap.objs.size + 1 := Heap.size_push ..
  refine (show _ ∧ _ from ?_)
  rw [z]
  have e : IsEnum ((s.heap.push (tiO t)).push (enO s.heap.objs.size)) (s.heap.objs.size + 1) s.heap.objs.size 0 .none := by
    have q := Heap.get?_push_size (s.heap.push (tiO t)) (o := enO s.heap.objs.size) rfl
    rw [z] at q
    exact q
  exact ⟨⟨_, e, rfl⟩, h _ e ⟨_, Heap.get?_push_of_some _ (Heap.get?_push_size _ rfl), rfl, rfl⟩ fun b o q => Heap.get?_push_of_some _ (Heap.get?_push_of_some _ q)⟩
end
/-- the tuple at a as it stands, each item in a new pair -/
def ItT (K : PySem.W.Frag) (a : Addr) : It :=
  ⟨fun i H => ∃ (xs : List V) (x : V), SqT K H a xs ∧ xs[i]? = some x, fun i H v H' => ∃ T x, v = .ref T ∧ H T = none ∧ H' = upd H T (.tup [.int (i : Nat), x]) ∧ ∀ xs, SqT K H a xs → xs[i]? = some x, fun i H => ∃ xs : List V, SqT K H a xs ∧ xs.length = i⟩
theorem turn_enT {P : Program} {w : World} {K : PySem.W.Frag} {elts : List Expr} {kk : Nat} {tpos : Pos} {a e it : Addr} (hae : a ≠ e) (hai : a ≠ it) :
    Turn P w K (.Tuple elts kk tpos) (ItT K a) [e, it] e fun i h => (∃ old, IsEnum h e it ((i : Nat) : Int) old) ∧ h.IsTupleIter it a i ∧ e ≠ it where
  mem := List.mem_cons_self
  obj := fun i h st b hb => by
    obtain ⟨⟨old, he⟩, ⟨o, ho, hc, hd⟩, _⟩ := st
    rcases List.mem_cons.mp hb with z | z
    · rw [z]; exact ⟨_, he, fun v q => nomatch q⟩
    · rw [List.mem_singleton.mp z]; exact ⟨o, ho, fun v q => by rw [hd] at q; cases q⟩
  keep := fun i h h' st k => by
    obtain ⟨⟨old, he⟩, hi, ne⟩ := st
    exact ⟨⟨old, k e List.mem_cons_self _ he⟩, hi.at fun o q => k it (by simp) o q, ne⟩
  item := by
    intro X hP hw hK hc i pins s σ H E I hf st hg
    subst hP hw hK
    obtain ⟨⟨old, he⟩, hit, ne⟩ := st
    obtain ⟨xs, x, hq, hx⟩ := hg
    obtain ⟨its, rv, pt, hz⟩ := I.tuple hq
    obtain ⟨u, hu, ru⟩ := rv.get hx
    have iT : s.heap.IsTuple a its.toArray := pt
    have el : e < s.heap.objs.size := Heap.lt_size he
    have il : it < s.heap.objs.size := hit.elim fun _ q => Heap.lt_size q.1
    have hi : i < its.toArray.size := by
      have := (List.getElem?_eq_some_iff.mp hu).1
      simpa using this
    refine wpAny_pyNext_enum_itemD (tupDraw (P := X.prog) (w := X.w) (A := X.A.in1) (I.ok.hd hc) it a hai its.toArray) he ⟨hit, iT⟩ hi ne (fun z => ?_) fun y h1 tk hy ho st1 hT hsz hk => ?_
    · rcases List.mem_cons.mp z with z | z
      · exact ne z
      · exact hae (List.mem_singleton.mp z).symm
    obtain rfl : y = u := by
      have hy' : its.toArray[i]? = some y := hy
      rw [List.getElem?_toArray, hu] at hy'
      exact (Option.some.inj hy').symm
    refine ⟨_, rfl, wpAny_letOwnedTupleGo_enum (s := { s with heap := h1, toks := tk + 1 }) ho fun h2 he2 sb => ?_⟩
    have hT2 : h2.get? s.heap.objs.size = some { cls := .type "tuple", data := .seq #[.int i tk, y] } := (sb.2 _ (Nat.ne_of_gt el)).trans hT
    have new : ObjOk X.prog X.w (upd H s.heap.objs.size (.tup [.int (i : Nat), x])) h2 s.heap.objs.size (.tup [.int (i : Nat), x]) :=
      ⟨by show 2 ≤ sizeLine; decide, [.int i tk, y], .cons ⟨_, rfl⟩ (.cons ru .nil), ⟨_, hT2, rfl, _, rfl⟩⟩
    have kk : ∀ b o, b ∉ [e, it] → s.heap.get? b = some o → h2.get? b = some o := fun b o nb q => by
      have n1 : b ≠ e := fun z => nb (by simp [z])
      have n2 : b ≠ it := fun z => nb (by simp [z])
      exact (sb.2 b n1).trans (hk b o n1 n2 q)
    have I1 : Inv X pins σ (upd H s.heap.objs.size (.tup [.int (i : Nat), x])) { s with heap := h2, toks := tk + 1 } := I.turnedNew (ch := [e, it]) (fun b o nb q => kk b o nb q) hf (Nat.le_refl _) new
    refine ⟨.ref s.heap.objs.size, _, I1, rfl, ⟨_, x, rfl, I.hok.fresh (Nat.le_refl _), rfl, fun ys hy => by rw [I.tuple_inj hy hq]; exact hx⟩, ⟨⟨y, ?_⟩, ?_, ne⟩, fun b hb => ?_⟩
    · have e1 : ((i + 1 : Nat) : Int) = (i : Int) + 1 := by omega
      rw [e1]; exact he2
    · exact st1.1.at fun o q => (sb.2 it (Ne.symm ne)).trans q
    · have hb' : b < s.heap.objs.size := by
        rcases List.mem_cons.mp hb with z | z
        · rw [z]; exact el
        · rw [List.mem_singleton.mp z]; exact il
      rw [upd_ne (Nat.ne_of_lt hb')]
      exact (hf b hb).1
  done := by
    intro X hP hw hK hc i pins s σ H E I hf st hg
    subst hP hw hK
    obtain ⟨⟨old, he⟩, hit, ne⟩ := st
    obtain ⟨xs, hq, rfl⟩ := hg
    obtain ⟨its, rv, pt, hz⟩ := I.tuple hq
    have iT : s.heap.IsTuple a its.toArray := pt
    obtain ⟨f0, f1, f2, f3, f4, f5⟩ := hf it (by simp)
    have hl : its.toArray.size = xs.length := by rw [List.size_toArray]; exact rv.length.symm
    have D := tupDraw (P := X.prog) (w := X.w) (A := X.A.in1) (I.ok.hd hc) it a hai its.toArray
    rw [hl] at D
    exact wpAny_pyNext_enum_endD D he ⟨hit, iT⟩ fun h' eb => ⟨rfl, I.turned (t' := s.toks) (fun b o hb q => eb b o hb q) f0 f1 f3 f4 f5⟩
  self := fun A i s Q E st h => st.1.elim fun _ he => wpAny_pyIter_enum he h
/-- enumerate(a list, or a tuple) -/
def iEn (K : PySem.W.Frag) (ta : TA) : TI := fun σ H R => ta σ H fun vs H1 => ∃ a, vs = [.ref a] ∧ (((∃ xs, SqL K H1 a xs) ∧ R (Ite K a) H1) ∨ ((∃ xs, SqT K H1 a xs) ∧ R (ItT K a) H1))
theorem pi_en {X : Cx} {e : Expr} {ta : TA} {p pos tpos : Pos} {elts : List Expr} {kk : Nat} (hg : Gl X "enumerate") (hm : X.mg "enumerate" = none) (ha : PA X [e] ta) (hs : starEach [e] X.env = [(false, eval e X.env)]) :
    PI X (.Tuple elts kk tpos) (.Call (.Name "enumerate" p) [e] [] pos) (iEn X.K ta) := by
  constructor
  intro pins s σ H R I h
  refine PyProof.Rows.Call_ (ld_blt I hg hm PyProof.Rows.boot_enumerate (PyProof.Rows.callWith_type1 (thn (ha.run pos pins s σ H _ I h) fun us s1 ⟨vs, H1, I1, r1, a, ex, q⟩ => ?_) hs rfl))
  subst ex
  cases r1 with
  | cons r rr =>
    cases rr
    cases r
    have fp : ∀ b, b ∈ [s1.heap.objs.size + 1, s1.heap.objs.size] → FpOk X pins H1 b := fun b hb => by
      have le : s1.heap.objs.size ≤ b := by
        rcases List.mem_cons.mp hb with z | z
        · rw [z]; exact Nat.le_succ _
        · rw [List.mem_singleton.mp z]; exact Nat.le_refl _
      exact I1.fpOk le (I1.hok.fresh le)
    rcases q with ⟨⟨xs, hq⟩, q⟩ | ⟨⟨xs, hq⟩, q⟩
    · obtain ⟨its, rv, pl, hz⟩ := I1.list hq
      exact call_enumerate_list pl.isList fun h' he hit hsz hk => wpAny_pyIter_enum he
        ⟨s1.heap.objs.size + 1, [s1.heap.objs.size + 1, s1.heap.objs.size], _, _, H1, rfl, I1.kept (t' := s1.toks) hk, turn_enum a (s1.heap.objs.size + 1) s1.heap.objs.size, ⟨⟨.none, he⟩, hit, Nat.succ_ne_self _⟩, fp, q⟩
    · obtain ⟨its, rv, pt, hz⟩ := I1.tuple hq
      have iT : s1.heap.IsTuple a its.toArray := pt
      have al : a < s1.heap.objs.size := iT.elim fun _ q => Heap.lt_size q.1
      exact call_enumT iT fun h' he hit hk => wpAny_pyIter_enum he
        ⟨s1.heap.objs.size + 1, [s1.heap.objs.size + 1, s1.heap.objs.size], _, _, H1, rfl, I1.kept (t' := s1.toks) hk, turn_enT (Nat.ne_of_lt (Nat.lt_succ_of_lt al)) (Nat.ne_of_lt al), ⟨⟨.none, he⟩, hit, Nat.succ_ne_self _⟩, fp, q⟩
end LL

set_option Elab.async false
set_option linter.all false
set_option maxRecDepth 100000
set_option maxHeartbeats 4000000
/-! LLq: sorted words, types asked, len of a set, by readings. -/
namespace LL
open PySem L2 PySem.Spec PyProof.Rows
section
variable {P : Program} {w : World} {A : Around} {E : Value → Shared → Prop} {s : Shared}
/-- what a list or a tuple holds, gathered -/
theorem col_seq {a : Addr} {o : Obj} {T : String} {n : Nat} {vs : List Value} {Q : List Value → Shared → Prop} (hT : T = "list" ∨ T = "tuple") (ho : s.heap.get? a = some o) (hc : o.cls = .type T) (hd : o.data = .seq vs.toArray n)
    (hz : vs.length ≤ sizeLine) (q : Q vs { s with heap := (s.heap.push (seqObj "list" #[] 0)).update s.heap.objs.size (Obj.mapSeq (· ++ vs.toArray)) }) : wpAny (model P w) A (collect (.ref a)) Q E s := by
  have at0 : (s.heap.push (seqObj "list" #[] 0)).get? s.heap.objs.size = some (seqObj "list" #[] 0) := Heap.get?_push_size _ rfl
  have ho1 : (s.heap.push (seqObj "list" #[] 0)).get? a = some o := Heap.get?_push_of_some _ ho
  unfold collect
  refine wpAny_bind (wpAny_runValue (codeAny_builtin entry_proto_collect' ?_))
  refine (show wpAny _ _ (do again (.builtin "list.__iadd__" ⟨[← newList [], .ref a], []⟩)) _ _ s from ?_)
  refine wpAny_bind (wpAny_newList (wpAny_pure ⟨Code.quiet_builtin _ (by decide +kernel), codeAny_builtin entry_list_iadd' ?_⟩))
  refine (show wpAny _ _ (Builtin.List.listExtendWith (.ref s.heap.objs.size) (.ref a) (.ref s.heap.objs.size)) _ _ { s with heap := s.heap.push (seqObj "list" #[] 0) } from ?_)
  unfold Builtin.List.listExtendWith
  refine wpAny_bind (wpAny_typeOf (T := T) ⟨o, ho1, hc⟩ ?_)
  rw [if_pos (by rcases hT with rfl | rfl <;> simp)]
  refine wpAny_bind (listItems_at ho1 hd (wpAny_bind (listItems_at (xs := #[]) (n := 0) at0 rfl ?_)))
  rw [if_neg (by simp)]
  refine wpAny_bind (listUpdate_at (xs := #[]) (n := 0) at0 rfl ?_ (Nat.zero_le _) (by refine (show (#[] ++ vs.toArray).size ≤ sizeLine + 1 from ?_); simp only [Array.size_append, List.size_toArray, List.length_nil]; omega))
  refine wpAny_pure ?_
  refine (show wpAny (model P w) A (do
      let o ← load s.heap.objs.size
      match o.data with
      | .seq xs _ => pure xs.toList
      | _ => unsupported "internal:collect") Q E { s with heap := (s.heap.push (seqObj "list" #[] 0)).update s.heap.objs.size (Obj.mapSeq (· ++ vs.toArray)) } from ?_)
  refine wpAny_bind (wpAny_load (get?_update_seq at0 _) (show wpAny _ _ (pure ((#[] : Array Value) ++ vs.toArray).toList) Q E _ from ?_))
  have e : ((#[] : Array Value) ++ vs.toArray).toList = vs := by simp
  rw [e]
  exact wpAny_pure q
/-- sorted(..) of the words of a list or tuple -/
theorem sorted_seqS {a : Addr} {o : Obj} {T : String} {n : Nat} {vs : List Value} {xs : List Str} {Q : Value → Shared → Prop} (hT : T = "list" ∨ T = "tuple") (ho : s.heap.get? a = some o) (hc : o.cls = .type T) (hd : o.data = .seq vs.toArray n)
    (hv : StrsAre vs xs) (hz : vs.length ≤ sizeLine)
    (q : ∀ (h' : Heap) (p : Addr) (us : List Value) (ys : List Str) (c : Nat), (∀ b o, s.heap.get? b = some o → h'.get? b = some o) → s.heap.objs.size ≤ p → h'.get? p = some (seqObj "list" us.toArray c) → StrsAre us ys → ys.Perm xs → sortedS ys = true → Q (.ref p) { s with heap := h' }) :
    wpAny (model P w) A (call (.builtin "sorted") [.ref a]) Q E s := by
  refine Calls.call_function_entry kind_sorted plain_sorted entry_sorted (args_sorted1 _) ?_
  unfold Builtin.«sorted»
  refine wpAny_bind (m := checkCount "sorted" 1 1 _) (wpAny_pure ?_)
  refine wpAny_bind (col_seq hT ho hc hd hz (wpAny_bind (wpAny_newList ?_ (by simpa using hz))))
  have z1 : ((s.heap.push (seqObj "list" #[] 0)).update s.heap.objs.size (Obj.mapSeq (· ++ vs.toArray))).objs.size = s.heap.objs.size + 1 := by
    rw [Heap.size_update, size_push']
  have k1 : ∀ b o, s.heap.get? b = some o → ((s.heap.push (seqObj "list" #[] 0)).update s.heap.objs.size (Obj.mapSeq (· ++ vs.toArray))).get? b = some o := fun b u e => by
    rw [Heap.get?_update_ne _ _ _ _ (Nat.ne_of_lt (Heap.lt_size e))]
    exact Heap.get?_push_of_some _ e
  generalize (s.heap.push (seqObj "list" #[] 0)).update s.heap.objs.size (Obj.mapSeq (· ++ vs.toArray)) = h1 at z1 k1 ⊢
  have oL : (h1.push (seqObj "list" vs.toArray 0)).get? h1.objs.size = some (seqObj "list" vs.toArray 0) := Heap.get?_push_size _ rfl
  refine wpAny_bind (wpAny_holding (wpAny_call_entry slot_list_sort ⟨_, oL, rfl⟩ entry_list_sort (list_sort_treeKAny strKind_oneLt oL hv.keysOf (fun v1 v2 r e => keyKind_strs (by rw [← e]; exact hv)) hz fun st' p1 p2 => ⟨_, rfl, ?_⟩) (args_list_sort _)))
  obtain ⟨ys, h3, h4, h5⟩ := sorted_out_str hv p1 p2
  obtain ⟨c, hc'⟩ := sortedHeap_at (vs := vs) (out := (arrOf st').map (·.2)) oL
  refine wpAny_pure ⟨_, rfl, q _ h1.objs.size ((arrOf st').map (·.2)).toList ys c (fun b u e => ?_) (by rw [z1]; exact Nat.le_succ _) hc' h3 h4 h5⟩
  have e1 := k1 b u e
  have lt := Heap.lt_size e1
  refine (sortedHeap_old (Nat.ne_of_lt lt) ?_).trans (Heap.get?_push_of_some _ e1)
  rw [size_push']
  exact Nat.lt_succ_of_lt lt
end
section
variable {X : Cx}
/-- sorted(xs), words -/
def rSortW (K : PySem.W.Frag) : List V → Hp → VK → Prop := fun vs H Q => ∃ (a : Addr) (xs : List Str), vs = [V.ref a] ∧ (SqL K H a (xs.map V.str) ∨ SqT K H a (xs.map V.str)) ∧
  ∀ (ys : List Str) (p : Addr), ys.Perm xs → sortedS ys = true → H p = none → xs.length ≤ sizeLine → Q (.ref p) (upd H p (.lst (ys.map V.str)))
theorem cr_sortW : CallR X (.builtin "sorted") (rSortW X.K) := by
  intro pins s σ H vs us Q I r h
  obtain ⟨a, xs, rfl, hs, q⟩ := h
  rw [Vals.ref1 r]
  have go : ∀ {its : List Value} {T : String} {o : Obj} {n : Nat}, T = "list" ∨ T = "tuple" → s.heap.get? a = some o → o.cls = .type T → o.data = .seq its.toArray n → Vals (xs.map V.str) its → its.length ≤ sizeLine →
      wpAny (model X.prog X.w) X.A (call (.builtin "sorted") [.ref a]) (EP X pins σ Q) X.xe s := fun {its T o n} hT ho hc hd rv hz => by
    refine sorted_seqS hT ho hc hd (strsAre_of rv) hz fun h' p us ys c hk hp ha h1 h2 h3 => ?_
    have z : xs.length ≤ sizeLine := by have := rv.length; rw [List.length_map] at this; omega
    have z2 : (ys.map V.str).length ≤ sizeLine := by rw [List.length_map, h2.length_eq]; exact z
    exact ⟨.ref p, upd H p (.lst (ys.map V.str)), I.laid (t' := s.toks) hk hp ⟨z2, us, c, vals_of_strs h1, ha⟩, rfl, q ys p h2 h3 (I.hok.fresh hp) z⟩
  rcases hs with hs | hs
  · obtain ⟨its, rv, pl, hz⟩ := I.list hs
    obtain ⟨o, ho, hc, n, hd⟩ := pl.isList
    exact go (.inl rfl) ho hc hd rv (by rw [← rv.length]; exact hz)
  · obtain ⟨its, rv, pt, hz⟩ := I.tuple hs
    obtain ⟨o, ho, hc, n, hd⟩ := pt
    exact go (.inr rfl) ho hc hd rv (by rw [← rv.length]; exact hz)
/-- len(set(t)), t a tuple of words -/
def tLenW (K : PySem.W.Frag) (te : TE) : TE := fun σ H Q => te σ H fun x H1 => ∃ (l : Addr) (xs : List Str), x = .ref l ∧ SqT K H1 l (xs.map V.str) ∧ xs.length + 1 < scanBound ∧ Q (.int (news xs xs.length : Nat)) H1
theorem pe_lenW {e : Expr} {te : TE} {p1 p2 q1 pos : Pos} (hc : X.calm = true) (g1 : Gl X "len") (m1 : X.mg "len" = none) (g2 : Gl X "set") (m2 : X.mg "set" = none) (he : PE X e te) (ns : starEach [e] X.env = (false, eval e X.env) :: starEach [] X.env) :
    PE X (.Call (.Name "len" p1) [.Call (.Name "set" p2) [e] [] q1] [] pos) (tLenW X.K te) := by
  constructor
  intro pins s σ H Q I h
  refine PyProof.Rows.Call_ (ld_blt I g1 m1 boot_len (PyProof.Rows.callWith_builtin1 (PyProof.Rows.args_cons ?_ rfl) rfl rfl))
  refine PyProof.Rows.Call_ (ld_blt I g2 m2 boot_set (PyProof.Rows.callWith_type1 (PyProof.Rows.args_cons (thn (he.run pins s σ H _ I h) fun v s1 ⟨x, H1, I1, r1, q1⟩ => PyProof.Rows.args_nil ?_) ns) ns rfl))
  obtain ⟨l, xs, rfl, hq, hb, q⟩ := q1
  cases r1
  obtain ⟨its, rv, pt, hz⟩ := I1.tuple hq
  refine set_tup (I1.ok.hd hc) (show s1.heap.IsTuple l its.toArray from pt) (by simpa using strsAre_of rv) hb fun h' tk hs hk => PyProof.Rows.args_nil ?_
  obtain ⟨o, es, ep, t, ho, hex, hd, _, _, hz2, hf, hn⟩ := hs
  have I2 : Inv X pins σ H1 { s1 with heap := h', toks := tk } := I1.kept fun b o e => hk b o e
  exact call_len_set ho hex hd hf (by have : scanBound = 4096 := rfl; omega) ⟨.int (news xs xs.length : Nat), H1, I2.tok _, ⟨_, by rw [hn]⟩, q⟩
/-- a built-in type by its name -/
theorem pe_tyName {x : Str} {n : String} {p : Pos} (hg : Gl X x) (hm : X.mg x = none) (hv : bootBuiltins x = some (.type n)) (hn : x ≠ "__name__") (hd : (x == ("__debug__" : Str)) = false) : PE X (.Name x p) (tC (.ty n)) :=
  ⟨fun pins s σ H Q I h => ld_blt I hg hm hv ⟨.ty n, H, I, rfl, h⟩ hn hd⟩
end
end LL

set_option Elab.async false
set_option linter.all false
set_option maxRecDepth 100000
set_option maxHeartbeats 2000000
/-! LLb: the small language and its interpreter. -/
namespace LL
open PySem L2

inductive RV where
  | v (w : W) | f (k : OK) (ws : List W)
def RV.w : RV → W
  | .v w => w
  | .f k ws => .obj k ws
inductive OV where
  | v (w : W) | b (i : Nat)
abbrev Flds := List (Str × W)
inductive R (α : Type) where
  | ok (a : α) (st : ST) | exn (c : Nat) (fs : Flds) (st : ST) | bad
def R.bind {α β : Type} (r : R α) (g : α → ST → R β) : R β := match r with
  | .ok a st => g a st
  | .exn c fs st => .exn c fs st
  | .bad => .bad
inductive RC where
  | ok (r : RV) (S : List SO) | exn (c : Nat) (fs : Flds) (S : List SO) | bad
abbrev CT := Nat → List W → List SO → RC

inductive Op2 where
  | add | sub | mul | fdiv | mod | pow
inductive Cp where
  | eq | ne | lt | le | gt | ge | isN | notN | inn | nin
inductive TgI where
  | nm (i : Nat) | tp (l : List Nat)
/-- built-in functions -/
inductive Bf where
  | len | int | tuple | list | sorted
/-- types that are asked for -/
inductive Tn where
  | tuple | list | str | int | bool
mutual
inductive IE where
  | var (i : Nat)
  | non | bl (b : Bool) | int (i : Int) | str (s : Str)
  | tup (a : IA) | lst (a : IA)
  | bin (o : Op2) (a b : IE)
  | cmp (o : Cp) (a b : IE)
  | andE (a b : IE) | orE (a b : IE) | notE (a : IE) | ifE (c a b : IE)
  | idx (a b : IE)
  | sfrom (a lo : IE) | upto (a hi : IE) | cut (a lo hi : IE) | rev (a : IE)
  | call (f : Nat) (a : IA)
  | blt (f : Bf) (a : IA)
  | pop (i : Nat) (e : IE)
  | setLen (e : IE) | isT (e : IE) (t : Tn)
  | comp (elt : IE) (g : TgI) (src : SI) (cond : IE) (has : Bool)
  /-- a new object, from now on an object of the store -/
  | nref (e : IE)
  /-- a.index(b), a a list of flat things -/
  | idxOf (a b : IE)
inductive IA where
  | nil | cons (e : IE) (r : IA)
inductive SI where
  | seq (e : IE) | rng (e : IE) | enm (e : IE)
end

/-! ### values -/
mutual
def weq : W → W → Bool
  | .non, .non => true
  | .bl a, .bl b => a == b
  | .bl a, .int j => (if a then 1 else 0) == j
  | .int i, .bl b => i == (if b then 1 else 0)
  | .int i, .int j => i == j
  | .str x, .str y => x == y
  | .tup xs, .tup ys => weqs xs ys
  | .obj .lst xs, .obj .lst ys => weqs xs ys
  | _, _ => false
def weqs : List W → List W → Bool
  | [], [] => true
  | x :: xs, y :: ys => weq x y && weqs xs ys
  | _, _ => false
end
mutual
/-- data of depth at most n, no references -/
def okd : Nat → W → Bool
  | _, .non => true
  | _, .bl _ => true
  | _, .int _ => true
  | _, .str _ => true
  | 0, .tup _ => false
  | n + 1, .tup xs => okds n xs
  | n + 1, .obj .lst xs => okds n xs
  | _, .obj _ _ => false
  | _, .ref _ => false
  | _, .scr _ => false
def okds : Nat → List W → Bool
  | _, [] => true
  | n, x :: xs => okd n x && okds n xs
end
def flatW : W → Bool
  | .non => true
  | .bl _ => true
  | .int _ => true
  | .str _ => true
  | _ => false
def szOk (n : Nat) : Bool := decide (n ≤ sizeLine)
def truth : W → Option Bool
  | .non => some false
  | .bl b => some b
  | .int i => some (i != 0)
  | .tup xs => some (!xs.isEmpty)
  | .obj .lst xs => some (!xs.isEmpty)
  | _ => none
def mulOk (i j : Int) : Bool := (decide (-(2 ^ 64) < i) && decide (i < 2 ^ 64)) || (decide (-(2 ^ 64) < j) && decide (j < 2 ^ 64))
def op2 : Op2 → W → W → Option RV
  | .add, .int i, .int j => some (.v (.int (i + j)))
  | .add, .tup xs, .tup ys => if szOk (xs.length + ys.length) then some (.v (.tup (xs ++ ys))) else none
  | .add, .obj .lst xs, .obj .lst ys => if szOk (xs.length + ys.length) then some (.f .lst (xs ++ ys)) else none
  | .sub, .int i, .int j => some (.v (.int (i - j)))
  | .mul, .int i, .int j => if mulOk i j then some (.v (.int (i * j))) else none
  | .fdiv, .int i, .int j => if decide (0 < j) && decide (j < 1073741824) then some (.v (.int (i / j))) else none
  | .mod, .int i, .int j => if decide (0 < j) then some (.v (.int (i % j))) else none
  | .pow, .int i, .int j => if decide (0 ≤ j) && decide (j ≤ 1000000) && decide (i.natAbs < 2 ^ 64) then some (.v (.int (i ^ j.toNat))) else none
  | _, _, _ => none
def isNonW : W → Bool
  | .non => true
  | _ => false
def items : W → Option (List W)
  | .tup xs => some xs
  | .obj .lst xs => some xs
  | _ => none
def cmp2 : Cp → W → W → Option Bool
  | .eq, x, y => if okd 60 x && okd 60 y then some (weq x y) else none
  | .ne, x, y => if okd 60 x && okd 60 y then some (!weq x y) else none
  | .lt, .int i, .int j => some (decide (i < j))
  | .le, .int i, .int j => some (decide (i ≤ j))
  | .gt, .int i, .int j => some (decide (j < i))
  | .ge, .int i, .int j => some (decide (j ≤ i))
  | .isN, x, .non => some (isNonW x)
  | .notN, x, .non => some (!isNonW x)
  | .inn, x, y => (items y).bind fun xs => if flatW x && xs.all flatW then some (xs.any fun y => weq y x) else none
  | .nin, x, y => (items y).bind fun xs => if flatW x && xs.all flatW then some (!xs.any fun y => weq y x) else none
  | _, _, _ => none
def idx2 : W → W → Option W
  | .tup xs, .int i => atI xs i
  | .obj .lst xs, .int i => atI xs i
  | .scr ns, .int i => (atI ns i).map .int
  | _, _ => none
def cutW (xs : List W) (lo hi : Option Int) : List W := (xs.drop (HT.sIx xs.length 0 lo)).take (HT.sIx xs.length xs.length hi - HT.sIx xs.length 0 lo)
def slc2 (lo hi : Option Int) : W → Option RV
  | .tup xs => some (.v (.tup (cutW xs lo hi)))
  | .obj .lst xs => some (.f .lst (cutW xs lo hi))
  | _ => none
/-- all words -/
def strsW : List W → Option (List Str)
  | [] => some []
  | .str x :: r => (strsW r).map (x :: ·)
  | _ :: _ => none
def srtS (xs : List Str) : List Str := xs.mergeSort fun a b => !PySem.Spec.ltCps b.cps.toList a.cps.toList
def isTn : W → Tn → Option Bool
  | .tup _, .tuple => some true
  | .obj .lst _, .list => some true
  | .scr _, .list => some true
  | .str _, .str => some true
  | .int _, .int => some true
  | .bl _, .int => some true
  | .bl _, .bool => some true
  | .obj .lst _, _ => some false
  | .obj _ _, _ => none
  | .ref _, _ => none
  | _, _ => some false
def toI : W → Option Int
  | .int i => some i
  | _ => none
/-- built-in functions, by values -/
def blt1 : Bf → List W → Option RV
  | .len, [.tup xs] => some (.v (.int xs.length))
  | .len, [.obj .lst xs] => some (.v (.int xs.length))
  | .len, [.scr ns] => some (.v (.int ns.length))
  | .int, [.int i] => some (.v (.int i))
  | .tuple, [.tup xs] => some (.v (.tup xs))
  | .tuple, [.obj .lst xs] => some (.v (.tup xs))
  | .list, [.tup xs] => some (.f .lst xs)
  | .list, [.obj .lst xs] => some (.f .lst xs)
  | .sorted, [x] => (items x).bind fun xs => (strsW xs).map fun ys => .f .lst ((srtS ys).map .str)
  | _, _ => none

def deref (o : OV) (env : Env') : Option W := match o with
  | .v w => some w
  | .b i => match env[i]? with
    | some (some (.val w)) => some w
    | some (some (.own k ws)) => some (.obj k ws)
    | _ => none
def opd (a : IE) (r : ST → R RV) (st : ST) : R OV := match a with
  | .var i => match st.env[i]? with
    | some (some _) => .ok (.b i) st
    | _ => .bad
  | _ => (r st).bind fun v st => .ok (.v v.w) st
/-- a list of the store, as it stands -/
def vw (S : List SO) : W → W
  | .ref n => match S[n]? with
    | some so => .obj so.k so.ws
    | none => .ref n
  | w => w
def derefV (o : OV) (st : ST) : Option W := (deref o st.env).map (vw st.sto)
def un1 (f : W → Option RV) (o : R OV) : R RV := o.bind fun x st => match (derefV x st).bind f with
  | some r => .ok r st
  | none => .bad
def vB (o : Option Bool) : Option RV := o.map fun b => .v (.bl b)
def bin1 (f : W → W → Option RV) (oa : ST → R OV) (ob : ST → R OV) (st : ST) : R RV :=
  (oa st).bind fun x st => (ob st).bind fun y st => match derefV x st, derefV y st with
    | some v, some w => match f v w with
      | some r => .ok r st
      | none => .bad
    | _, _ => .bad
/-- a method of one argument: what the receiver is is looked at ahead of the argument -/
def meth1 (chk : W → Bool) (f : W → W → Option RV) (oa : ST → R OV) (ob : ST → R OV) (st : ST) : R RV :=
  (oa st).bind fun x st => match (derefV x st).map chk with
    | some true => (ob st).bind fun y st => match derefV x st, derefV y st with
      | some v, some w => match f v w with
        | some r => .ok r st
        | none => .bad
      | _, _ => .bad
    | _ => .bad
def isLst : W → Bool
  | .obj .lst _ => true
  | _ => false
/-- the first place of x -/
def findW (x : W) : List W → Option Nat
  | [] => none
  | y :: ys => if weq y x then some 0 else (findW x ys).map (· + 1)
def idxOf2 : W → W → Option RV
  | .obj .lst xs, x => if flatW x && xs.all flatW then (findW x xs).map fun j => .v (.int (j : Nat)) else none
  | _, _ => none
def cut1 (oa ob oc : ST → R OV) (st : ST) : R RV :=
  (oa st).bind fun x st => (ob st).bind fun y st => match (derefV y st).bind toI with
    | some i => (oc st).bind fun z st => (match derefV x st, (derefV z st).bind toI with
      | some v, some j => match slc2 (some i) (some j) v with
        | some r => .ok r st
        | none => .bad
      | _, _ => .bad)
    | none => .bad
def tst (o : R OV) : R Bool := o.bind fun x st => match (derefV x st).bind truth with
  | some b => .ok b st
  | none => .bad
def derefs (st : ST) : List OV → Option (List W)
  | [] => some []
  | o :: r => (derefV o st).bind fun w => (derefs st r).map (w :: ·)
def setTs : List Nat → List W → Env' → Option Env'
  | [], [], env => some env
  | i :: l, w :: ws, env => setTs l ws (env.set i (some (.val w)))
  | _, _, _ => none
def setT (g : TgI) (w : W) (env : Env') : Option Env' := match g with
  | .nm i => some (env.set i (some (.val w)))
  | .tp l => match w with
    | .tup ws => setTs l ws env
    | _ => none
def TgI.vars : TgI → List Nat
  | .nm i => [i]
  | .tp l => l
def wipeE (vs : List Nat) (env : Env') : Env' := match vs with
  | [] => env
  | v :: vs => (wipeE vs env).set v none
def keepV : Option (Option Sl) → Option Sl
  | some (some (.val w)) => some (.val w)
  | _ => none
def restE (vs : List Nat) (e0 e1 : Env') : Env' := match vs with
  | [] => e1
  | v :: vs => (restE vs e0 e1).set v (keepV e0[v]?)
def compL (step : W → ST → R (Option W)) : List W → ST → R (List W)
  | [], st => .ok [] st
  | x :: xs, st => (step x st).bind fun o st => (compL step xs st).bind fun ws st => .ok (o.toList ++ ws) st
/-- one turn of a comprehension -/
def cStep (tc : ST → R Bool) (te : ST → R RV) (g : TgI) (has : Bool) (x : W) (st : ST) : R (Option W) := match setT g x (wipeE g.vars st.env) with
  | none => .bad
  | some env' => if has then (tc { st with env := env' }).bind fun b st => if b then (te st).bind (fun r st => .ok (some r.w) st) else .ok none st
    else (te { st with env := env' }).bind (fun r st => .ok (some r.w) st)
def enumW : Nat → List W → List W
  | _, [] => []
  | n, x :: xs => .tup [.int n, x] :: enumW (n + 1) xs
def rngW (j : Int) : List W := (List.range j.toNat).map fun k => .int (k : Nat)
def rngOk (j : Int) : Bool := decide (-(2 ^ 62) ≤ j) && decide (j < 2 ^ 62) && szOk j.toNat
def noExn {α : Type} : R α → R α
  | .exn _ _ _ => .bad
  | r => r

/-- xs.pop(j), xs the own list of slot i -/
def popR (i : Nat) (w : W) (st : ST) : R RV := match w, st.env[i]? with
  | .int j, some (some (.own .lst ws)) => (match ixN ws.length j with
    | some n => match ws[n]? with
      | some w => .ok (.v w) { st with env := st.env.set i (some (.own .lst (ws.eraseIdx n))) }
      | none => .bad
    | none => .bad)
  | _, _ => .bad
/-- a call, seen from its frame -/
def callR (C : CT) (f : Nat) (ws : List W) (st : ST) : R RV := match C f ws st.sto with
  | .ok r S => .ok r { st with sto := S }
  | .exn c fs S => .exn c fs { st with sto := S }
  | .bad => .bad
section
variable (C : CT)
structure EB where
  v : ST → R RV
  t : ST → R Bool
/-- both readings from the value's -/
def EB.of (e : IE) (r : ST → R RV) : EB := ⟨r, fun st => tst (opd e r st)⟩
mutual
def evB : IE → EB
  | .var i => EB.of (.var i) fun st => match st.env[i]? with
    | some (some (.val w)) => .ok (.v w) st
    | some (some (.own k ws)) => .ok (.v (.obj k ws)) { st with env := st.env.set i (some (.val (.obj k ws))) }
    | _ => .bad
  | .non => EB.of .non fun st => .ok (.v .non) st
  | .bl b => EB.of (.bl b) fun st => .ok (.v (.bl b)) st
  | .int i => EB.of (.int i) fun st => .ok (.v (.int i)) st
  | .str s => EB.of (.str s) fun st => .ok (.v (.str s)) st
  | .tup a => EB.of (.tup a) fun st => (evA a st).bind fun ws st => if szOk ws.length then .ok (.v (.tup ws)) st else .bad
  | .lst a => EB.of (.lst a) fun st => (evA a st).bind fun ws st => if szOk ws.length then .ok (.f .lst ws) st else .bad
  | .bin o a b => EB.of (.bin o a b) (bin1 (op2 o) (opd a (evB a).v) (opd b (evB b).v))
  | .cmp o a b => EB.of (.cmp o a b) (bin1 (fun v w => vB (cmp2 o v w)) (opd a (evB a).v) (opd b (evB b).v))
  | .andE a b => ⟨fun st => ((evB a).v st).bind fun r st => match r with
      | .v (.bl true) => (evB b).v st
      | .v (.bl false) => .ok (.v (.bl false)) st
      | _ => .bad, fun st => ((evB a).t st).bind fun c st => if c then (evB b).t st else .ok false st⟩
  | .orE a b => ⟨fun st => ((evB a).v st).bind fun r st => match r with
      | .v (.bl true) => .ok (.v (.bl true)) st
      | .v (.bl false) => (evB b).v st
      | _ => .bad, fun st => ((evB a).t st).bind fun c st => if c then .ok true st else (evB b).t st⟩
  | .notE a => ⟨fun st => ((evB a).v st).bind fun r st => match r with
      | .v (.bl c) => .ok (.v (.bl (!c))) st
      | _ => .bad, fun st => ((evB a).t st).bind fun c st => .ok (!c) st⟩
  | .ifE c a b => EB.of (.ifE c a b) fun st => ((evB c).t st).bind fun k st => if k then ((evB a).v st).bind (fun r st => .ok (.v r.w) st) else ((evB b).v st).bind (fun r st => .ok (.v r.w) st)
  | .idx a b => EB.of (.idx a b) (bin1 (fun v w => (idx2 v w).map .v) (opd a (evB a).v) (opd b (evB b).v))
  | .sfrom a lo => EB.of (.sfrom a lo) (bin1 (fun v w => (toI w).bind fun i => slc2 (some i) none v) (opd a (evB a).v) (opd lo (evB lo).v))
  | .upto a hi => EB.of (.upto a hi) (bin1 (fun v w => (toI w).bind fun i => slc2 none (some i) v) (opd a (evB a).v) (opd hi (evB hi).v))
  | .cut a lo hi => EB.of (.cut a lo hi) (cut1 (opd a (evB a).v) (opd lo (evB lo).v) (opd hi (evB hi).v))
  | .rev a => EB.of (.rev a) fun st => un1 (fun v => match v with | .obj .lst xs => some (.f .lst xs.reverse) | _ => none) (opd a (evB a).v st)
  | .call f a => EB.of (.call f a) fun st => (evA a st).bind (callR C f)
  | .blt f a => EB.of (.blt f a) fun st => (evO a st).bind fun os st => match (derefs st os).bind (blt1 f) with
    | some r => .ok r st
    | none => .bad
  | .pop i e => EB.of (.pop i e) fun st => match st.env[i]? with
    | some (some (.own .lst _)) => ((evB e).v st).bind fun k st => popR i k.w st
    | _ => .bad
  | .setLen e => EB.of (.setLen e) fun st => un1 (fun v => match v with
    | .tup xs => (strsW xs).bind fun ys => if decide (ys.length + 1 < scanBound) then some (.v (.int (news ys ys.length : Nat))) else none
    | _ => none) (opd e (evB e).v st)
  | .isT e t => EB.of (.isT e t) fun st => un1 (fun v => vB (isTn v t)) (opd e (evB e).v st)
  | .comp elt g src cond has => EB.of (.comp elt g src cond has) fun st => (evI src st).bind fun xs st0 =>
    match compL (cStep (evB cond).t (evB elt).v g has) xs st0 with
      | .ok ws st1 => .ok (.f .lst ws) { st1 with env := restE g.vars st0.env st1.env }
      | _ => .bad
  | .idxOf a b => EB.of (.idxOf a b) (meth1 isLst idxOf2 (opd a (evB a).v) (opd b (evB b).v))
  | .nref e => EB.of (.nref e) fun st => ((evB e).v st).bind fun r st => match r with
    | .f k ws => .ok (.v (.ref st.sto.length)) { st with sto := st.sto ++ [⟨k, ws⟩] }
    | _ => .bad
def evA : IA → ST → R (List W)
  | .nil, st => .ok [] st
  | .cons e r, st => ((evB e).v st).bind fun x st => (evA r st).bind fun xs st => .ok (x.w :: xs) st
def evO : IA → ST → R (List OV)
  | .nil, st => .ok [] st
  | .cons e r, st => (opd e (evB e).v st).bind fun x st => (evO r st).bind fun xs st => .ok (x :: xs) st
def evI : SI → ST → R (List W)
  | .seq e, st => ((evB e).v st).bind fun r st => match items r.w with
    | some xs => .ok xs st
    | none => .bad
  | .rng e, st => ((evB e).v st).bind fun r st => match r.w with
    | .int j => if rngOk j then .ok (rngW j) st else .bad
    | _ => .bad
  | .enm e, st => ((evB e).v st).bind fun r st => match items r.w with
    | some xs => .ok (enumW 0 xs) st
    | none => .bad
end
def ev (e : IE) (st : ST) : R RV := (evB C e).v st
def evT (e : IE) (st : ST) : R Bool := (evB C e).t st
end

/-! ### statements -/
/-- what an except suite reckons -/
inductive HE where
  | non | bl (b : Bool) | int (i : Int) | str (s : Str) | fld (f : Str) | tup (l : List HE)
  /-- isinstance(e, x), which is b -/
  | isE (x : Str) (b : Bool) | andH (a b : HE)
/-- an except clause: the classes that it takes, the name's slot, its stores -/
structure Hd where
  cs : List Nat
  oi : Option Nat
  asg : List (Nat × HE)
mutual
def hev (fs : Flds) : HE → Option W
  | .non => some .non
  | .bl b => some (.bl b)
  | .int i => some (.int i)
  | .str s => some (.str s)
  | .fld f => fs.lookup f
  | .tup l => (hevs fs l).bind fun ws => if szOk ws.length then some (.tup ws) else none
  | .isE _ b => some (.bl b)
  | .andH a b => match hev fs a with
    | some (.bl true) => hev fs b
    | some (.bl false) => some (.bl false)
    | _ => none
def hevs (fs : Flds) : List HE → Option (List W)
  | [] => some []
  | e :: r => (hev fs e).bind fun w => (hevs fs r).map (w :: ·)
end
def hAsg (fs : Flds) : List (Nat × HE) → Env' → Option Env'
  | [], env => some env
  | (i, e) :: r, env => (hev fs e).bind fun w => hAsg fs r (env.set i (some (.val w)))
def inE (oi : Option Nat) (env : Env') : Bool := match oi with
  | none => true
  | some i => decide (i < env.length)
def offE (oi : Option Nat) (env : Env') : Env' := match oi with
  | none => env
  | some i => env.set i none
mutual
inductive IS where
  | asg (i : Nat) (e : IE) | unp (l : List Nat) (e : IE) | par (i j : Nat) (a b : IE)
  | setI (o k e : IE) | app (i : Nat) (e : IE) | ex (e : IE)
  | ifS (c : IE) (a b : IB) | whl (c : IE) (b : IB) | forS (g : TgI) (s : SI) (b : IB)
  | ret (e : IE) | retN | pass | brk | cnt | nvr
  | rse (c : Nat) (fs : List Str) (a : IA) | tryE (b : IB) (hs : List Hd)
inductive IB where
  | nil | cons (s : IS) (r : IB)
end
inductive RS where
  | nx (st : ST) | brk (st : ST) | cnt (st : ST) | ret (r : RV) (S : List SO) | exn (c : Nat) (fs : Flds) (st : ST) | bad
def RS.of {α : Type} (r : R α) (g : α → ST → RS) : RS := match r with
  | .ok a st => g a st
  | .exn c fs st => .exn c fs st
  | .bad => .bad
def RS.then (r : RS) (g : ST → RS) : RS := match r with
  | .nx st => g st
  | r => r
def slOf : RV → Sl
  | .v w => .val w
  | .f k ws => .own k ws
def forL (step : W → ST → RS) : List W → ST → RS
  | [], st => .nx st
  | x :: xs, st => match step x st with
    | .nx st => forL step xs st
    | .cnt st => forL step xs st
    | .brk st => .nx st
    | r => r
/-- one turn of a for -/
def stepF (g : TgI) (b : ST → RS) (w : W) (st : ST) : RS := match setT g w st.env with
  | some env => b { st with env := env }
  | none => .bad
def whileL (c : ST → R Bool) (b : ST → RS) : Nat → ST → RS
  | 0, _ => .bad
  | n + 1, st => RS.of (c st) fun k st => if k then (match b st with
      | .nx st => whileL c b n st
      | .cnt st => whileL c b n st
      | .brk st => .nx st
      | r => r) else .nx st
/-- the clauses, one after the other -/
def hRun : List Hd → Nat → Flds → ST → RS
  | [], c, fs, st => .exn c fs st
  | h :: r, c, fs, st => if h.cs.contains c then (if inE h.oi st.env then (match hAsg fs h.asg (offE h.oi st.env) with
    | some env => .nx { st with env := offE h.oi env }
    | none => .bad) else .bad) else hRun r c fs st
def FU : Nat := 1000000
section
variable (C : CT)
mutual
def evS : IS → ST → RS
  | .asg i e, st => RS.of (ev C e st) fun r st => .nx { st with env := st.env.set i (some (slOf r)) }
  | .unp l e, st => RS.of (ev C e st) fun r st => match setT (.tp l) r.w st.env with
    | some env => .nx { st with env := env }
    | none => .bad
  | .par i j a b, st => RS.of (ev C a st) fun r st => RS.of (ev C b st) fun q st => .nx { st with env := (st.env.set i (some (slOf r))).set j (some (slOf q)) }
  | .setI o k e, st => RS.of (ev C e st) fun r st => RS.of (opd o (ev C o) st) fun x st => RS.of (opd k (ev C k) st) fun y st => match deref x st.env, deref y st.env with
    | some (.ref n), some (.int j) => (match st.sto[n]? with
      | some ⟨.lst, ws⟩ => (match ixN ws.length j with
        | some q => .nx { st with sto := st.sto.set n (.lst (ws.set q r.w)) }
        | none => .bad)
      | _ => .bad)
    | _, _ => .bad
  | .app i e, st => match st.env[i]? with
    | some (some (.own .lst _)) => RS.of (ev C e st) fun r st => (match st.env[i]? with
      | some (some (.own .lst ws)) => if szOk (ws.length + 1) then .nx { st with env := st.env.set i (some (.own .lst (ws ++ [r.w]))) } else .bad
      | _ => .bad)
    | some (some (.val (.ref n0))) => (match st.sto[n0]? with
      | some ⟨.lst, _⟩ => RS.of (ev C e st) fun r st => (match st.env[i]? with
        | some (some (.val (.ref n))) => (match st.sto[n]? with
          | some ⟨.lst, ws⟩ => if szOk (ws.length + 1) then .nx { st with sto := st.sto.set n (.lst (ws ++ [r.w])) } else .bad
          | _ => .bad)
        | _ => .bad)
      | _ => .bad)
    | _ => .bad
  | .ex e, st => RS.of (ev C e st) fun _ st => .nx st
  | .ifS c a b, st => RS.of (evT C c st) fun k st => if k then evSs a st else evSs b st
  | .whl c b, st => whileL (evT C c) (evSs b) FU st
  | .forS g s b, st => RS.of (evI C s st) fun xs st => forL (stepF g (evSs b)) xs st
  | .ret e, st => match e with
    | .var i => (match st.env[i]? with
      | some (some (.own k ws)) => .ret (.f k ws) st.sto
      | some (some (.val w)) => .ret (.v w) st.sto
      | _ => .bad)
    | e => RS.of (ev C e st) fun r st => .ret r st.sto
  | .retN, st => .ret (.v .non) st.sto
  | .pass, st => .nx st
  | .brk, st => .brk st
  | .cnt, st => .cnt st
  | .nvr, _ => .bad
  | .rse c fs a, st => RS.of (evA C a st) fun ws st => if ws.length == fs.length then .exn c (fs.zip ws).reverse st else .bad
  | .tryE b hs, st => match evSs b st with
    | .exn c fs st => hRun hs c fs st
    | r => r
def evSs : IB → ST → RS
  | .nil, st => .nx st
  | .cons s r, st => (evS s st).then (evSs r)
end
end
structure FnI where
  np : Nat
  ns : Nat
  body : IB
def RC.fin : RS → RC
  | .nx st => .ok (.v .non) st.sto
  | .ret r S => .ok r S
  | .exn c fs st => .exn c fs st.sto
  | _ => .bad
def entryE (n : Nat) (ws : List W) : Env' := ws.map (fun w => some (.val w)) ++ List.replicate (n - ws.length) none
abbrev FT := List (Nat × FnI)
def callN (T : FT) : Nat → CT
  | 0 => fun _ _ _ => .bad
  | k + 1 => fun f ws S => match T.lookup f with
    | none => .bad
    | some fn => if ws.length == fn.np then RC.fin (evSs (callN T k) fn.body ⟨entryE fn.ns ws, S⟩) else .bad
end LL

set_option Elab.async false
set_option linter.all false
/-! LLr: words in order. -/
namespace LL
open PySem L2
def leS (a b : Str) : Bool := !PySem.Spec.ltCps b.cps.toList a.cps.toList
theorem leS_iff {a b : Str} : leS a b = true ↔ a.cps.toList ≤ b.cps.toList := by
  unfold leS
  rw [PyProof.Rows.ltCps_eq]
  simp
theorem leS_trans (a b c : Str) (h1 : leS a b = true) (h2 : leS b c = true) : leS a c = true := leS_iff.mpr (List.le_trans (leS_iff.mp h1) (leS_iff.mp h2))
theorem leS_total (a b : Str) : (leS a b || leS b a) = true := by
  rw [Bool.or_eq_true, leS_iff, leS_iff]
  exact List.le_total _ _
theorem leS_anti {a b : Str} (h1 : leS a b = true) (h2 : leS b a = true) : a = b := by
  have := List.le_antisymm (leS_iff.mp h1) (leS_iff.mp h2)
  exact PySem.Str.ext' (Array.toList_inj.mp this)
theorem srt_pw (xs : List Str) : (srtS xs).Pairwise fun a b => leS a b = true := List.pairwise_mergeSort (le := leS) leS_trans leS_total xs
theorem srt_perm (xs : List Str) : (srtS xs).Perm xs := List.mergeSort_perm xs leS
theorem rising_pw : ∀ (r : List Str) (x : Str), PyProof.Rows.risingS x r = true → (x :: r).Pairwise fun a b => leS a b = true
  | [], x, _ => by simp
  | y :: r, x, h => by
    unfold PyProof.Rows.risingS at h
    rw [Bool.and_eq_true] at h
    have ih := rising_pw r y h.2
    refine List.pairwise_cons.mpr ⟨fun z hz => ?_, ih⟩
    rcases List.mem_cons.mp hz with q | q
    · rw [q]; exact h.1
    · exact leS_trans x y z h.1 (List.rel_of_pairwise_cons ih q)
theorem sorted_pw : ∀ {ys : List Str}, PyProof.Rows.sortedS ys = true → ys.Pairwise fun a b => leS a b = true
  | [], _ => .nil
  | x :: r, h => rising_pw r x h
theorem srt_uniq {xs ys : List Str} (hp : ys.Perm xs) (hs : ys.Pairwise fun a b => leS a b = true) : ys = srtS xs :=
  List.Perm.eq_of_pairwise (fun a b _ _ h1 h2 => leS_anti h1 h2) hs (srt_pw xs) (hp.trans (srt_perm xs).symm)
theorem srt_eq {xs ys : List Str} : srtS xs = srtS ys ↔ xs.Perm ys :=
  ⟨fun h => (srt_perm xs).symm.trans (h ▸ srt_perm ys), fun h => srt_uniq ((srt_perm xs).trans h) (srt_pw xs)⟩
end LL

set_option Elab.async false
set_option linter.all false
set_option maxRecDepth 100000
set_option maxHeartbeats 2000000
/-! LLc (v2): the readings of the interpreter, and how they follow one another. -/
namespace LL
open PySem L2
variable [Cs]

/-- one evaluation's step: the heap went on, no slot became an owner -/
structure Step (φ : List Addr) (st : ST) (σ : St) (H : Hp) (φ' : List Addr) (st' : ST) (H' : Hp) : Prop where
  ext : Ext φ (OE st.env σ) H φ' H'
  own : ∀ a, OE st'.env σ a → OE st.env σ a
theorem Step.refl {φ st σ H} : Step φ st σ H φ st H := ⟨.refl, fun _ h => h⟩
theorem Step.trans {φ st σ H φ1 st1 H1 φ2 st2 H2} (a : Step φ st σ H φ1 st1 H1) (b : Step φ1 st1 σ H1 φ2 st2 H2) : Step φ st σ H φ2 st2 H2 :=
  ⟨a.ext.trans b.ext a.own, fun x h => a.own x (b.own x h)⟩
theorem Step.rep {K φ Z st σ H φ' st' H' w v} (s : Step φ st σ H φ' st' H') (h : Rep K φ (AV Z st.env σ) H w v) : Rep K φ' (AV Z st'.env σ) H' w v :=
  (h.ext s.ext fun _ z => .inr z).anti fun a z => z.elim .inl fun q => .inr (s.own a q)
theorem Step.reps {K φ Z st σ H φ' st' H' ws vs} (s : Step φ st σ H φ' st' H') (h : Reps K φ (AV Z st.env σ) H ws vs) : Reps K φ' (AV Z st'.env σ) H' ws vs :=
  (h.ext s.ext fun _ z => .inr z).anti fun a z => z.elim .inl fun q => .inr (s.own a q)

/-- what stood stands -/
def Dm (B H : Hp) : Prop := ∀ a o, B a = some o → ∃ o', H a = some o'
theorem Dm.none {B H : Hp} (d : Dm B H) {a : Addr} (h : H a = none) : B a = none := by
  cases q : B a with
  | none => rfl
  | some o =>
    obtain ⟨o', z⟩ := d a o q
    rw [h] at z; cases z
/-- a result: a value, or a list that nobody else knows and that was not there at the beginning (B) -/
def RRep (K : PySem.W.Frag) (B : Hp) (φ : List Addr) (Z : Addr → Prop) (st : ST) (σ : St) (H : Hp) : RV → V → Prop
  | .v w, v => Rel K φ Z st σ H ∧ Rep K φ (AV Z st.env σ) H w v
  | .f k ws, v => ∃ p vs, v = .ref p ∧ B p = none ∧ p ∉ φ ∧ ¬ AV Z st.env σ p ∧ At H p k vs ∧ Rel K φ (fun a => Z a ∨ a = p) st σ H ∧ Reps K φ (AV (fun a => Z a ∨ a = p) st.env σ) H ws vs
/-- what an exception carries -/
def ExnR (K : PySem.W.Frag) (ce : Nat → Option Addr) (φ : List Addr) (A : Addr → Prop) (H : Hp) (c : Nat) (fs : Flds) (cls : Value) (d : Option Addr) : Prop :=
  (∃ C, ce c = some C ∧ cls = .ref C) ∧ (∀ f w, fs.lookup f = some w → ∃ dd xs v, d = some dd ∧ H dd = some (.xd xs) ∧ dd ∉ φ ∧ ¬ A dd ∧ xs.lookup f = some v ∧ Rep K φ A H w v) ∧ ∀ dd, d = some dd → ∃ xs, H dd = some (.xd xs)
/-- an operand -/
def OVr (K : PySem.W.Frag) (φ : List Addr) (A : Addr → Prop) (H : Hp) (σ : St) : OV → V → Prop
  | .v w, v => Rep K φ A H w v
  | .b i, v => σ[i]? = some (some v)

section
variable (K : PySem.W.Frag) (ce : Nat → Option Addr) (Wx : WX)
/-- the exception's way out -/
def Exo (φ : List Addr) (Z : Addr → Prop) (st : ST) (σ : St) (H : Hp) (c : Nat) (fs : Flds) (st' : ST) : Prop :=
  ∀ φ' H' cls d, Step φ st σ H φ' st' H' → Rel K φ' Z st' σ H' → ExnR K ce φ' (AV Z st'.env σ) H' c fs cls d → Wx cls d σ H'
def Out {α : Type} (P : List Addr → (Addr → Prop) → ST → Hp → α → Prop) (φ : List Addr) (Z : Addr → Prop) (st : ST) (σ : St) (H : Hp) (r : R α) : Prop := match r with
  | .ok a st' => ∀ φ' H', Step φ st σ H φ' st' H' → P φ' Z st' H' a
  | .exn c fs st' => Exo K ce Wx φ Z st σ H c fs st'
  | .bad => False
def tI (m : ST → R RV) : TE := fun σ H Q => ∃ φ Z st, Rel K φ Z st σ H ∧ Out K ce Wx (fun φ' Z' st' H' r => ∀ v, RRep K H φ' Z' st' σ H' r v → Q v H') φ Z st σ H (m st)
def tO (m : ST → R OV) : TE := fun σ H Q => ∃ φ Z st, Rel K φ Z st σ H ∧ Out K ce Wx (fun φ' Z' st' H' o => Rel K φ' Z' st' σ H' → ∀ v, OVr K φ' (AV Z' st'.env σ) H' σ o v → Q v H') φ Z st σ H (m st)
def tTst (m : ST → R Bool) : TT := fun σ H Q => ∃ φ Z st, Rel K φ Z st σ H ∧ Out K ce Wx (fun φ' Z' st' H' b => Rel K φ' Z' st' σ H' → Q b H') φ Z st σ H (m st)
def tAr (m : ST → R (List W)) : TA := fun σ H Q => ∃ φ Z st, Rel K φ Z st σ H ∧ Out K ce Wx (fun φ' Z' st' H' ws => Rel K φ' Z' st' σ H' → ∀ vs, Reps K φ' (AV Z' st'.env σ) H' ws vs → Q vs H') φ Z st σ H (m st)
def OVs (K : PySem.W.Frag) (φ : List Addr) (A : Addr → Prop) (H : Hp) (σ : St) : List OV → List V → Prop
  | [], vs => vs = []
  | o :: os, vs => ∃ v r, vs = v :: r ∧ OVr K φ A H σ o v ∧ OVs K φ A H σ os r
def tOs (m : ST → R (List OV)) : TA := fun σ H Q => ∃ φ Z st, Rel K φ Z st σ H ∧ Out K ce Wx (fun φ' Z' st' H' os => Rel K φ' Z' st' σ H' → ∀ vs, OVs K φ' (AV Z' st'.env σ) H' σ os vs → Q vs H') φ Z st σ H (m st)
end

/-! ### simple facts -/
section
variable {K : PySem.W.Frag} {φ : List Addr} {Z : Addr → Prop} {st : ST} {σ : St} {H : Hp}
theorem RelS.anti {A A' : Addr → Prop} {S} (h : RelS K φ A H S) (hb : ∀ a, A' a → A a) : RelS K φ A' H S :=
  ⟨h.len, h.nd, fun a m z => h.av a m (hb a z), fun n a so e1 e2 => by
    have q := h.obj n a so e1 e2
    obtain ⟨vs, q1, q3⟩ := q
    exact ⟨vs, q1, q3.anti hb⟩⟩
theorem SlotOk.anti {A A' : Addr → Prop} {s v} (h : SlotOk K φ A H s v) (hb : ∀ a, A' a → A a) : SlotOk K φ A' H s v := by
  cases s with
  | val w =>
    obtain ⟨u, e, r⟩ := h
    exact ⟨u, e, r.anti hb⟩
  | own k ws =>
    obtain ⟨a, vs, h1, h2, h3, h5⟩ := h
    exact ⟨a, vs, h1, h2, h3, h5.anti hb⟩
/-- fewer hidden addresses -/
theorem Rel.less {Z' : Addr → Prop} (r : Rel K φ Z st σ H) (hb : ∀ a, Z' a → Z a) : Rel K φ Z' st σ H :=
  have k : ∀ a, AV Z' st.env σ a → AV Z st.env σ a := fun a z => z.elim (fun q => .inl (hb a q)) .inr
  ⟨r.sto.anti k, r.len, fun i s e => by
    obtain ⟨v, e1, q⟩ := r.env i s e
    exact ⟨v, e1, q.anti k⟩, r.dis, fun a h z => r.hid a h (hb a z), fun a z => r.zd a (hb a z)⟩
/-- a new object comes, hidden -/
theorem Rel.fresh {p : Addr} {o : HO} (r : Rel K φ Z st σ H) (h0 : H p = none) : Rel K φ (fun a => Z a ∨ a = p) st σ (upd H p o) := by
  have k : ∀ a, AV (fun a => Z a ∨ a = p) st.env σ a → AV Z st.env σ a ∨ a = p := fun a z => by
    rcases z with (z | z) | z
    · exact .inl (.inl z)
    · exact .inr z
    · exact .inl (.inr z)
  have sl : ∀ s v, SlotOk K φ (AV Z st.env σ) H s v → SlotOk K φ (AV (fun a => Z a ∨ a = p) st.env σ) (upd H p o) s v := fun s v h => by
    cases s with
    | val w =>
      obtain ⟨u, e, q⟩ := h
      exact ⟨u, e, (q.fresh h0).anti k⟩
    | own kk ws =>
      obtain ⟨a, vs, h1, h2, h3, h5⟩ := h
      exact ⟨a, vs, h1, h2, h3.upd h0, (h5.fresh h0).anti k⟩
  refine ⟨⟨r.sto.len, r.sto.nd, fun a m z => ?_, fun n a so e1 e2 => ?_⟩, r.len, fun i s e => ?_, r.dis, fun a h z => ?_, fun a z => ?_⟩
  · rcases k a z with q | q
    · exact r.sto.av a m q
    · obtain ⟨n, hn⟩ := List.getElem?_of_mem m
      have hl : n < st.sto.length := by rw [← r.sto.len]; exact (List.getElem?_eq_some_iff.mp hn).1
      have q2 := r.sto.obj n a _ hn (List.getElem?_eq_getElem hl)
      rw [q] at q2
      obtain ⟨vs, ⟨u, q3, _⟩, _⟩ := q2
      rw [h0] at q3; cases q3
  · have q := r.sto.obj n a so e1 e2
    obtain ⟨vs, q1, q3⟩ := q
    exact ⟨vs, q1.upd h0, (q3.fresh h0).anti k⟩
  · obtain ⟨v, e1, q⟩ := r.env i s e
    exact ⟨v, e1, sl s v q⟩
  · rcases z with z | z
    · exact r.hid a h z
    · obtain ⟨i, kk, ws, e1, e2⟩ := h
      obtain ⟨v, e3, a', vs, e4, _, ⟨u, e5, _⟩, _⟩ := r.env i _ e1
      rw [e2] at e3
      cases e3
      cases e4
      rw [z, h0] at e5; cases e5
  · rcases z with z | z
    · obtain ⟨o', q⟩ := r.zd a z
      exact ⟨o', by rw [upd_ne (ne_of_none q h0)]; exact q⟩
    · exact ⟨o, by rw [z]; exact upd_same⟩
theorem Step.upd {p : Addr} {o : HO} (h0 : H p = none) : Step φ st σ H φ st (upd H p o) := ⟨.upd h0, fun _ h => h⟩
theorem Rel.upd {p : Addr} {o : HO} (r : Rel K φ Z st σ H) (h0 : H p = none) : Rel K φ Z st σ (upd H p o) := (r.fresh h0).less fun _ z => .inl z
theorem Rel.notAV {p : Addr} (r : Rel K φ Z st σ H) (h0 : H p = none) : ¬ AV Z st.env σ p ∧ p ∉ φ := by
  refine ⟨fun z => ?_, fun m => ?_⟩
  · rcases z with z | ⟨i, kk, ws, e1, e2⟩
    · obtain ⟨o, q⟩ := r.zd p z
      rw [h0] at q; cases q
    · obtain ⟨v, e3, a', vs, e4, _, ⟨u, e5, _⟩, _⟩ := r.env i _ e1
      rw [e2] at e3; cases e3; cases e4
      rw [h0] at e5; cases e5
  · obtain ⟨n, hn⟩ := List.getElem?_of_mem m
    have hl : n < st.sto.length := by rw [← r.sto.len]; exact (List.getElem?_eq_some_iff.mp hn).1
    obtain ⟨vs, ⟨u, q3, _⟩, _⟩ := r.sto.obj n p _ hn (List.getElem?_eq_getElem hl)
    rw [h0] at q3; cases q3
/-- a new object -/
theorem RRep.newO {B : Hp} {p : Addr} {k : OK} {o : HO} {ws vs} (dm : Dm B H) (r : Rel K φ Z st σ H) (h0 : H p = none) (hi : IsO (L2.upd H p o) p k vs o) (hr : Reps K φ (AV Z st.env σ) H ws vs) (hz : vs.length ≤ sizeLine) : RRep K B φ Z st σ (L2.upd H p o) (.f k ws) (.ref p) := by
  obtain ⟨h1, h2⟩ := r.notAV h0
  refine ⟨p, vs, rfl, dm.none h0, h2, h1, ⟨o, upd_same, hi, hz⟩, r.fresh h0, (hr.fresh h0).anti fun a z => ?_⟩
  rcases z with (z | z) | z
  · exact .inl (.inl z)
  · exact .inr z
  · exact .inl (.inr z)
/-- a new list -/
theorem RRep.new {B : Hp} {p : Addr} {ws vs} (dm : Dm B H) (r : Rel K φ Z st σ H) (h0 : H p = none) (hr : Reps K φ (AV Z st.env σ) H ws vs) (hz : vs.length ≤ sizeLine) : RRep K B φ Z st σ (L2.upd H p (.lst vs)) (.f .lst ws) (.ref p) :=
  .newO dm r h0 rfl hr hz
/-- a new tuple -/
theorem RRep.newT {B : Hp} {p : Addr} {ws vs} (r : Rel K φ Z st σ H) (h0 : H p = none) (hr : Reps K φ (AV Z st.env σ) H ws vs) (hz : vs.length ≤ sizeLine) : RRep K B φ Z st σ (L2.upd H p (.tup vs)) (.v (.tup ws)) (.ref p) := by
  refine ⟨r.upd h0, rep_tup.mpr ⟨p, vs, rfl, ⟨.inl upd_same, hz⟩, ?_⟩⟩
  exact hr.ext (B := OE st.env σ) (Ext.upd h0) fun _ z => .inr z
/-- frozen: the result as a value -/
theorem RRep.val {B : Hp} {r : RV} {v : V} (h : RRep K B φ Z st σ H r v) : Rel K φ Z st σ H ∧ Rep K φ (AV Z st.env σ) H r.w v := by
  cases r with
  | v w => exact h
  | f k ws =>
    obtain ⟨p, vs, rfl, _, h1, h2, h3, h5, h6⟩ := h
    refine ⟨h5.less fun _ z => .inl z, rep_obj.mpr ⟨p, vs, rfl, ⟨h3, h1, h2⟩, h6.anti fun a z => ?_⟩⟩
    rcases z with z | z
    · exact .inl (.inl z)
    · exact .inr z
theorem RRep.base {B B' : Hp} {r : RV} {v : V} (d : Dm B B') (h : RRep K B' φ Z st σ H r v) : RRep K B φ Z st σ H r v := by
  cases r with
  | v w => exact h
  | f k ws =>
    obtain ⟨p, vs, e, h0, h⟩ := h
    exact ⟨p, vs, e, d.none h0, h⟩
theorem RRep.scal {B : Hp} {w : W} {v : V} (r : Rel K φ Z st σ H) (h : Rep K φ (AV Z st.env σ) H w v) : RRep K B φ Z st σ H (.v w) v := ⟨r, h⟩
end

/-! ### readings imply readings -/
theorem PE.imp {X : Cx} {e : Expr} {t t' : TE} (h : PE X e t) (i : ∀ σ H Q, t' σ H Q → t σ H Q) : PE X e t' := ⟨fun pins s σ H Q I q => h.run pins s σ H Q I (i σ H Q q)⟩
theorem PT.imp {X : Cx} {e : Expr} {t t' : TT} (h : PT X e t) (i : ∀ σ H Q, t' σ H Q → t σ H Q) : PT X e t' := ⟨fun pins s σ H Q I q => h.run pins s σ H Q I (i σ H Q q)⟩
theorem PW.imp {X : Cx} {e : Expr} {t t' : TT} (h : PW X e t) (i : ∀ σ H Q, t' σ H Q → t σ H Q) : PW X e t' := ⟨fun wh pins s σ H Q I q => h.run wh pins s σ H Q I (i σ H Q q)⟩
theorem PA.imp {X : Cx} {es : List Expr} {t t' : TA} (h : PA X es t) (i : ∀ σ H Q, t' σ H Q → t σ H Q) : PA X es t' := ⟨fun pos pins s σ H Q I q => h.run pos pins s σ H Q I (i σ H Q q)⟩
theorem PS.imp {X : Cx} {e : Stmt} {t t' : TS} (h : PS X e t) (i : ∀ D σ H, t' D σ H → t D σ H) : PS X e t' := ⟨fun pins s σ H D I q => h.run pins s σ H D I (i D σ H q)⟩
theorem PSs.imp {X : Cx} {e : List Stmt} {t t' : TS} (h : PSs X e t) (i : ∀ D σ H, t' D σ H → t D σ H) : PSs X e t' := ⟨fun pins s σ H D I q => h.run pins s σ H D I (i D σ H q)⟩

section
variable {K : PySem.W.Frag} {ce : Nat → Option Addr} {Wx : WX} {φ φ1 : List Addr} {Z : Addr → Prop} {st st1 : ST} {σ : St} {H H1 : Hp}
theorem Exo.step {c fs st'} (s : Step φ st σ H φ1 st1 H1) (h : Exo K ce Wx φ Z st σ H c fs st') : Exo K ce Wx φ1 Z st1 σ H1 c fs st' := fun φ' H' cls d s' => h φ' H' cls d (s.trans s')
/-- the rest of an evaluation, seen from its first part -/
theorem Out.bind {α β : Type} {P : List Addr → (Addr → Prop) → ST → Hp → β → Prop} {P' : List Addr → (Addr → Prop) → ST → Hp → α → Prop} {r : R α} {g : α → ST → R β}
    (h : Out K ce Wx P φ Z st σ H (r.bind g)) (k : ∀ a st1 φ1 H1, r = .ok a st1 → Step φ st σ H φ1 st1 H1 → Out K ce Wx P φ1 Z st1 σ H1 (g a st1) → P' φ1 Z st1 H1 a) : Out K ce Wx P' φ Z st σ H r := by
  cases r with
  | bad => exact h
  | exn c fs st' => exact h
  | ok a st1 =>
    intro φ1 H1 s1
    refine k a st1 φ1 H1 rfl s1 ?_
    have h' : Out K ce Wx P φ Z st σ H (g a st1) := h
    generalize g a st1 = r2 at h' ⊢
    cases r2 with
    | bad => exact h'
    | exn c fs st' => exact Exo.step s1 h'
    | ok b st2 => exact fun φ2 H2 s2 => h' φ2 H2 (s1.trans s2)
theorem Out.imp {α : Type} {P P' : List Addr → (Addr → Prop) → ST → Hp → α → Prop} {r : R α} (h : Out K ce Wx P φ Z st σ H r) (k : ∀ φ' Z' st' H' a, P φ' Z' st' H' a → P' φ' Z' st' H' a) : Out K ce Wx P' φ Z st σ H r := by
  cases r with
  | bad => exact h
  | exn c fs st' => exact h
  | ok a st1 => exact fun φ' H' s => k _ _ _ _ _ (h φ' H' s)
theorem Out.ok {α : Type} {P : List Addr → (Addr → Prop) → ST → Hp → α → Prop} {a : α} (h : Out K ce Wx P φ Z st σ H (.ok a st)) : P φ Z st H a := h φ H .refl
end
end LL

set_option Elab.async false
set_option linter.all false
set_option maxRecDepth 100000
set_option maxHeartbeats 2000000
/-! LLd: the operators by values, and the implications from the interpreter's readings to the rules' readings. -/
namespace LL
open PySem L2
variable [Cs]

section
variable {K : PySem.W.Frag} {φ : List Addr} {Z : Addr → Prop} {st : ST} {σ : St} {H : Hp}

/-- a value that is only looked at -/
def RT (K : PySem.W.Frag) (φ : List Addr) (A : Addr → Prop) (H : Hp) (w : W) (v : V) : Prop :=
  Rep K φ A H w v ∨ ∃ k ws a vs, w = .obj k ws ∧ v = .ref a ∧ At H a k vs ∧ Reps K φ A H ws vs
theorem At.lst {H a vs} (h : At H a .lst vs) : H a = some (.lst vs) ∧ vs.length ≤ sizeLine := by
  obtain ⟨o, e, i, z⟩ := h
  exact ⟨by rw [e, show o = .lst vs from i], z⟩
theorem At.ofl {H : Hp} {a vs} (h : H a = some (.lst vs)) (z : vs.length ≤ sizeLine) : At H a .lst vs := ⟨_, h, rfl, z⟩
theorem RT.int {A i v} (h : RT K φ A H (.int i) v) : v = .int i := by
  rcases h with h | ⟨_, _, _, _, h, _⟩
  · exact rep_int.mp h
  · cases h
theorem RT.bl {A b v} (h : RT K φ A H (.bl b) v) : v = .bl b := by
  rcases h with h | ⟨_, _, _, _, h, _⟩
  · exact rep_bl.mp h
  · cases h
theorem RT.non {A v} (h : RT K φ A H .non v) : v = .non := by
  rcases h with h | ⟨_, _, _, _, h, _⟩
  · exact rep_non.mp h
  · cases h
theorem RT.str {A s v} (h : RT K φ A H (.str s) v) : v = .str s ∧ PyData.strOk s = true := by
  rcases h with h | ⟨_, _, _, _, h, _⟩
  · exact rep_str.mp h
  · cases h
theorem RT.tup {A ws v} (h : RT K φ A H (.tup ws) v) : ∃ a vs, v = .ref a ∧ TAt K H a vs ∧ Reps K φ A H ws vs := by
  rcases h with h | ⟨_, _, _, _, h, _⟩
  · exact rep_tup.mp h
  · cases h
theorem RT.obj {A k ws v} (h : RT K φ A H (.obj k ws) v) : ∃ a vs, v = .ref a ∧ At H a k vs ∧ Reps K φ A H ws vs := by
  rcases h with h | ⟨_, _, a, vs, h, h1, h2, h4⟩
  · obtain ⟨a, vs, h1, h2, h3⟩ := rep_obj.mp h
    exact ⟨a, vs, h1, h2.at_, h3⟩
  · cases h
    exact ⟨a, vs, h1, h2, h4⟩
theorem RT.lst {A ws v} (h : RT K φ A H (.lst ws) v) : ∃ a vs, v = .ref a ∧ H a = some (.lst vs) ∧ vs.length ≤ sizeLine ∧ Reps K φ A H ws vs := by
  obtain ⟨a, vs, h1, h2, h3⟩ := h.obj
  exact ⟨a, vs, h1, h2.lst.1, h2.lst.2, h3⟩
theorem RT.scr {A ns v} (h : RT K φ A H (.scr ns) v) : ∃ a, v = .ref a ∧ ScrAt K φ A H a (ns.map V.int) := by
  rcases h with h | ⟨_, _, _, _, h, _⟩
  · exact rep_scr.mp h
  · cases h
/-- a list or a tuple, to be read -/
theorem RT.items {A w ws v} (h : RT K φ A H w v) (e : items w = some ws) : ∃ a vs, v = .ref a ∧ (SqL K H a vs ∨ SqT K H a vs) ∧ vs.length ≤ sizeLine ∧ Reps K φ A H ws vs := by
  cases w with
  | tup xs =>
    cases e
    obtain ⟨a, vs, h1, h2, h3⟩ := h.tup
    exact ⟨a, vs, h1, .inr h2.sq, h2.2, h3⟩
  | obj k xs =>
    cases k with
    | lst =>
      cases e
      obtain ⟨a, vs, h1, h2, h3, h4⟩ := h.lst
      exact ⟨a, vs, h1, .inl (.of h2), h3, h4⟩
    | _ => cases e
  | _ => cases e
theorem OVr.top (r : Rel K φ Z st σ H) {o v w} (h : OVr K φ (AV Z st.env σ) H σ o v) (e : deref o st.env = some w) : RT K φ (AV Z st.env σ) H w v := by
  cases o with
  | v w' =>
    cases e
    exact .inl h
  | b i =>
    have h : σ[i]? = some (some v) := h
    unfold deref at e
    cases q : st.env[i]? with
    | none => simp [q] at e
    | some s =>
      cases s with
      | none => simp [q] at e
      | some s =>
        obtain ⟨u, e1, so⟩ := r.env i s q
        rw [h] at e1; cases e1
        cases s with
        | val w' =>
          simp [q] at e; subst e
          obtain ⟨u, e2, rr⟩ := so
          cases e2
          exact .inl rr
        | own k ws =>
          simp [q] at e; subst e
          obtain ⟨a, vs, e2, _, h1, h3⟩ := so
          cases e2
          exact .inr ⟨k, ws, a, vs, rfl, rfl, h1, h3⟩
theorem RT.vw (r : Rel K φ Z st σ H) {v w} (h : RT K φ (AV Z st.env σ) H w v) : RT K φ (AV Z st.env σ) H (vw st.sto w) v := by
  cases w with
  | ref n =>
    rcases h with h | ⟨_, _, _, _, e, _⟩
    · obtain ⟨a, ea, rfl⟩ := rep_ref.mp h
      cases es : st.sto[n]? with
      | none =>
        have e : LL.vw st.sto (.ref n) = .ref n := by simp only [LL.vw, es]
        rw [e]
        exact .inl h
      | some so =>
        have e : LL.vw st.sto (.ref n) = .obj so.k so.ws := by simp only [LL.vw, es]
        rw [e]
        obtain ⟨vs, h1, h3⟩ := r.sto.obj n a _ ea es
        exact .inr ⟨_, _, a, vs, rfl, rfl, h1, h3⟩
    · cases e
  | _ => exact h
theorem OVr.topV (r : Rel K φ Z st σ H) {o v w} (h : OVr K φ (AV Z st.env σ) H σ o v) (e : derefV o st = some w) : RT K φ (AV Z st.env σ) H w v := by
  unfold derefV at e
  obtain ⟨w', e1, rfl⟩ := Option.map_eq_some_iff.mp e
  exact (h.top r e1).vw r
theorem OVr.step {φ' st' H'} (s : Step φ st σ H φ' st' H') {o v} (h : OVr K φ (AV Z st.env σ) H σ o v) : OVr K φ' (AV Z st'.env σ) H' σ o v := by
  cases o with
  | v w => exact s.rep h
  | b i => exact h

/-- what the rule of a binary operation asks, from the plain function -/
def rU (K : PySem.W.Frag) (f : W → W → Option RV) : R2 := fun x y H Q => ∃ φ Z st σ w1 w2 r B, Dm B H ∧ Rel K φ Z st σ H ∧ RT K φ (AV Z st.env σ) H w1 x ∧ RT K φ (AV Z st.env σ) H w2 y ∧ f w1 w2 = some r ∧
  ∀ H' v, Step φ st σ H φ st H' → RRep K B φ Z st σ H' r v → Q v H'

theorem Reps.ints : ∀ {ns : List Int} {ws : List W} {vs : List V} {A}, Reps K φ A H ws vs → ws = ns.map W.int → vs = ns.map V.int
  | [], ws, vs, A, h, e => by
    subst e
    unfold Reps at h; exact h
  | n :: ns, ws, vs, A, h, e => by
    subst e
    rw [List.map_cons] at h
    unfold Reps at h
    obtain ⟨v, r, rfl, h1, h2⟩ := h
    rw [rep_int.mp h1, Reps.ints (ns := ns) h2 rfl]; rfl
theorem Reps.strs : ∀ {ns : List Str} {ws : List W} {vs : List V} {A}, Reps K φ A H ws vs → ws = ns.map W.str → vs = ns.map V.str ∧ ∀ s ∈ ns, PyData.strOk s = true
  | [], ws, vs, A, h, e => by
    subst e
    unfold Reps at h; exact ⟨h, by simp⟩
  | n :: ns, ws, vs, A, h, e => by
    subst e
    rw [List.map_cons] at h
    unfold Reps at h
    obtain ⟨v, r, rfl, h1, h2⟩ := h
    obtain ⟨h3, h4⟩ := Reps.strs (ns := ns) h2 rfl
    obtain ⟨h5, h6⟩ := rep_str.mp h1
    refine ⟨by rw [h5, h3]; rfl, fun s hs => ?_⟩
    rcases List.mem_cons.mp hs with rfl | hs
    · exact h6
    · exact h4 s hs
end

/-! ### operators -/
section
variable {X : Cx}
theorem nil_of {K φ A H} {ws : List W} {vs : List V} (r : Reps K φ A H ws vs) : (vs = [] → ws = []) ∧ (ws = [] → vs = []) := by
  have := r.length
  exact ⟨fun e => by subst e; cases ws with | nil => rfl | cons _ _ => simp at this, fun e => by subst e; cases vs with | nil => rfl | cons _ _ => simp at this⟩
theorem ou_add : OpR X (binaryOp .Add) (rU X.K (op2 .add)) := by
  intro pins s σ H x y v u Q I rx ry h
  obtain ⟨φ, Z, st, σ', w1, w2, r, B, dm, rel, h1, h2, e, q⟩ := h
  cases w1 <;> cases w2 <;> simp only [op2] at e <;> try (cases e)
  · rename_i i j
    refine op_add pins s σ H x y v u Q I rx ry ⟨i, j, h1.int, h2.int, ?_⟩
    exact q H _ .refl ⟨rel, rep_int.mpr rfl⟩
  · rename_i xs ys
    obtain ⟨a, vs, e1, t1, r1⟩ := h1.tup
    obtain ⟨b, us, e2, t2, r2⟩ := h2.tup
    split at e
    · rename_i hz
      cases e
      have hz' : vs.length + us.length ≤ sizeLine := by rw [r1.length, r2.length]; exact of_decide_eq_true hz
      refine op_catA pins s σ H x y v u Q I rx ry ⟨a, b, vs, us, e1, e2, t1.sq, t2.sq, hz', fun n1 => ?_, fun n1 n2 => ?_, fun n1 n2 p hp => ?_⟩
      · rw [(nil_of r1).1 n1] at q
        exact q H _ .refl ⟨rel, rep_tup.mpr ⟨b, us, rfl, t2, r2⟩⟩
      · rw [(nil_of r2).1 n2, List.append_nil] at q
        exact q H _ .refl ⟨rel, rep_tup.mpr ⟨a, vs, rfl, t1, r1⟩⟩
      · exact q _ _ (Step.upd hp) (RRep.newT rel hp (r1.append r2) (by rw [List.length_append]; exact hz'))
    · cases e
  · rename_i k1 xs k2 ys
    cases k1 <;> cases k2 <;> simp only [op2] at e <;> try (cases e)
    obtain ⟨a, vs, e1, t1, z1, r1⟩ := h1.lst
    obtain ⟨b, us, e2, t2, z2, r2⟩ := h2.lst
    split at e
    · rename_i hz
      cases e
      have hz' : vs.length + us.length ≤ sizeLine := by rw [r1.length, r2.length]; exact of_decide_eq_true hz
      refine op_cat pins s σ H x y v u Q I rx ry ⟨a, b, vs, us, e1, e2, t1, t2, hz', fun p hp => ?_⟩
      exact q _ _ (Step.upd hp) (RRep.new dm rel hp (r1.append r2) (by rw [List.length_append]; exact hz'))
    · cases e
theorem ou_sub : OpR X (binaryOp .Sub) (rU X.K (op2 .sub)) := by
  intro pins s σ H x y v u Q I rx ry h
  obtain ⟨φ, Z, st, σ', w1, w2, r, B, dm, rel, h1, h2, e, q⟩ := h
  cases w1 <;> cases w2 <;> simp only [op2] at e <;> try (cases e)
  rename_i i j
  exact op_sub pins s σ H x y v u Q I rx ry ⟨i, j, h1.int, h2.int, q H _ .refl ⟨rel, rep_int.mpr rfl⟩⟩
theorem ou_mul : OpR X (binaryOp .Mult) (rU X.K (op2 .mul)) := by
  intro pins s σ H x y v u Q I rx ry h
  obtain ⟨φ, Z, st, σ', w1, w2, r, B, dm, rel, h1, h2, e, q⟩ := h
  cases w1 <;> cases w2 <;> simp only [op2] at e <;> try (cases e)
  rename_i i j
  split at e
  · rename_i hz
    cases e
    refine op_mul pins s σ H x y v u Q I rx ry ⟨i, j, h1.int, h2.int, ?_, q H _ .refl ⟨rel, rep_int.mpr rfl⟩⟩
    simpa [mulOk, CMul] using hz
  · cases e
theorem ou_fdiv : OpR X (binaryOp .FloorDiv) (rU X.K (op2 .fdiv)) := by
  intro pins s σ H x y v u Q I rx ry h
  obtain ⟨φ, Z, st, σ', w1, w2, r, B, dm, rel, h1, h2, e, q⟩ := h
  cases w1 <;> cases w2 <;> simp only [op2] at e <;> try (cases e)
  rename_i i j
  split at e
  · rename_i hz
    cases e
    refine op_fdiv pins s σ H x y v u Q I rx ry ⟨i, j, h1.int, h2.int, ?_, q H _ .refl ⟨rel, rep_int.mpr rfl⟩⟩
    simpa [CDiv] using hz
  · cases e
theorem ou_mod : OpR X (binaryOp .Mod) (rU X.K (op2 .mod)) := by
  intro pins s σ H x y v u Q I rx ry h
  obtain ⟨φ, Z, st, σ', w1, w2, r, B, dm, rel, h1, h2, e, q⟩ := h
  cases w1 <;> cases w2 <;> simp only [op2] at e <;> try (cases e)
  rename_i i j
  split at e
  · rename_i hz
    cases e
    refine op_mod pins s σ H x y v u Q I rx ry ⟨i, j, h1.int, h2.int, ?_, q H _ .refl ⟨rel, rep_int.mpr rfl⟩⟩
    simpa using hz
  · cases e
theorem ou_pow : OpR X (binaryOp .Pow) (rU X.K (op2 .pow)) := by
  intro pins s σ H x y v u Q I rx ry h
  obtain ⟨φ, Z, st, σ', w1, w2, r, B, dm, rel, h1, h2, e, q⟩ := h
  cases w1 <;> cases w2 <;> simp only [op2] at e <;> try (cases e)
  rename_i i j
  split at e
  · rename_i hz
    cases e
    refine op_pow pins s σ H x y v u Q I rx ry ⟨i, j, h1.int, h2.int, ?_, q H _ .refl ⟨rel, rep_int.mpr rfl⟩⟩
    simpa [CPow, and_assoc] using hz
  · cases e
end

/-! ### comparisons -/
mutual
def toD : W → PyData
  | .non => .none
  | .bl b => .bool b
  | .int i => .int i
  | .str s => .str s
  | .tup xs => .tuple (toDs xs)
  | .obj _ xs => .list (toDs xs)
  | .ref _ => .none
  | .scr _ => .none
def toDs : List W → List PyData
  | [] => []
  | x :: xs => toD x :: toDs xs
end
theorem okd_tup {n xs} (h : okd n (.tup xs) = true) : ∃ m, n = m + 1 ∧ okds m xs = true := by
  cases n with
  | zero => simp [okd] at h
  | succ m => exact ⟨m, rfl, by simpa [okd] using h⟩
theorem okd_lst {n xs} (h : okd n (.lst xs) = true) : ∃ m, n = m + 1 ∧ okds m xs = true := by
  cases n with
  | zero => simp [okd] at h
  | succ m => exact ⟨m, rfl, by simpa [okd] using h⟩
theorem okd_obj {n k xs} (h : okd n (.obj k xs) = true) : k = .lst := by
  cases k with
  | lst => rfl
  | _ => cases n <;> simp [okd] at h
theorem okd_ref {n k} (h : okd n (.ref k) = true) : False := by cases n <;> simp [okd] at h
theorem okd_scr {n k} (h : okd n (.scr k) = true) : False := by cases n <;> simp [okd] at h
theorem okds_cons {n x xs} (h : okds n (x :: xs) = true) : okd n x = true ∧ okds n xs = true := by
  rw [okds] at h
  exact Bool.and_eq_true_iff.mp h
mutual
theorem weq_eqv : ∀ (x y : W) (n m : Nat), okd n x = true → okd m y = true → weq x y = PyData.eqv (toD x) (toD y)
  | .non, y, n, m, _, h => by
    cases y <;> first | exact (okd_ref h).elim | exact (okd_scr h).elim | rfl | (obtain rfl := okd_obj h; rfl)
  | .bl a, y, n, m, _, h => by
    cases y <;> first | exact (okd_ref h).elim | exact (okd_scr h).elim | rfl | (obtain rfl := okd_obj h; rfl)
  | .int a, y, n, m, _, h => by
    cases y <;> first | exact (okd_ref h).elim | exact (okd_scr h).elim | rfl | (obtain rfl := okd_obj h; rfl)
  | .str a, y, n, m, _, h => by
    cases y <;> first | exact (okd_ref h).elim | exact (okd_scr h).elim | rfl | (obtain rfl := okd_obj h; rfl)
  | .tup xs, y, n, m, g, h => by
    obtain ⟨n', e1, g'⟩ := okd_tup g
    cases y with
    | tup ys =>
      obtain ⟨m', e2, h'⟩ := okd_tup h
      have q := weqs_eqv xs ys n' m' g' h'
      rw [weq, toD, toD, PyData.eqv, q]
    | ref k => exact (okd_ref h).elim
    | scr k => exact (okd_scr h).elim
    | obj k ys => obtain rfl := okd_obj h; rfl
    | _ => rfl
  | .obj k xs, y, n, m, g, h => by
    obtain rfl := okd_obj g
    obtain ⟨n', e1, g'⟩ := okd_lst g
    cases y with
    | obj k ys =>
      obtain rfl := okd_obj h
      obtain ⟨m', e2, h'⟩ := okd_lst h
      have q := weqs_eqv xs ys n' m' g' h'
      rw [weq, toD, toD, PyData.eqv, q]
    | ref k => exact (okd_ref h).elim
    | scr k => exact (okd_scr h).elim
    | _ => rfl
  | .ref _, y, n, m, g, h => (okd_ref g).elim
  | .scr _, y, n, m, g, h => (okd_scr g).elim
theorem weqs_eqv : ∀ (xs ys : List W) (n m : Nat), okds n xs = true → okds m ys = true → weqs xs ys = PyData.eqvAll (toDs xs) (toDs ys)
  | [], [], _, _, _, _ => rfl
  | [], _ :: _, _, _, _, _ => rfl
  | _ :: _, [], _, _, _, _ => rfl
  | x :: xs, y :: ys, n, m, g, h => by
    have q1 := weq_eqv x y n m (okds_cons g).1 (okds_cons h).1
    have q2 := weqs_eqv xs ys n m (okds_cons g).2 (okds_cons h).2
    rw [weqs, toDs, toDs, PyData.eqvAll, q1, q2]
end
mutual
theorem okd_depth : ∀ (x : W) (n : Nat), okd n x = true → (toD x).depth ≤ n
  | .non, n, _ => by simp [toD, PyData.depth]
  | .bl _, n, _ => by simp [toD, PyData.depth]
  | .int _, n, _ => by simp [toD, PyData.depth]
  | .str _, n, _ => by simp [toD, PyData.depth]
  | .tup xs, n, h => by
    obtain ⟨m, e, h'⟩ := okd_tup h
    have q := okds_depth xs m h'
    rw [toD, PyData.depth, e]; omega
  | .obj k xs, n, h => by
    obtain rfl := okd_obj h
    obtain ⟨m, e, h'⟩ := okd_lst h
    have q := okds_depth xs m h'
    rw [toD, PyData.depth, e]; omega
  | .ref _, n, h => (okd_ref h).elim
  | .scr _, n, h => (okd_scr h).elim
theorem okds_depth : ∀ (xs : List W) (n : Nat), okds n xs = true → PyData.depthAll (toDs xs) ≤ n
  | [], n, _ => by simp [toDs, PyData.depthAll]
  | x :: xs, n, h => by
    have h1 := okd_depth x n (okds_cons h).1
    have h2 := okds_depth xs n (okds_cons h).2
    rw [toDs, PyData.depthAll]; omega
end
section
variable {K : PySem.W.Frag} {φ : List Addr} {A : Addr → Prop} {H : Hp}
mutual
theorem rep_dp : ∀ (w : W) (n : Nat) (v : V), okd n w = true → Rep K φ A H w v → Dp K H v (toD w) ∧ (toD w).canLay0 = true
  | .non, n, v, _, h => by rw [rep_non.mp h]; exact ⟨.non, rfl⟩
  | .bl b, n, v, _, h => by rw [rep_bl.mp h]; exact ⟨.bl b, rfl⟩
  | .int i, n, v, _, h => by rw [rep_int.mp h]; exact ⟨.int i, rfl⟩
  | .str s, n, v, _, h => by
    obtain ⟨h1, h2⟩ := rep_str.mp h
    rw [h1]
    exact ⟨.str s, h2⟩
  | .tup xs, n, v, g, h => by
    obtain ⟨m, e, g'⟩ := okd_tup g
    obtain ⟨a, vs, rfl, t, r⟩ := rep_tup.mp h
    obtain ⟨h1, h2⟩ := reps_dp xs m vs g' r
    exact ⟨.tup t.sq h1, h2⟩
  | .obj k xs, n, v, g, h => by
    obtain rfl := okd_obj g
    obtain ⟨m, e, g'⟩ := okd_lst g
    obtain ⟨a, vs, rfl, t, r⟩ := rep_obj.mp h
    obtain ⟨h1, h2⟩ := reps_dp xs m vs g' r
    exact ⟨.lst (.of t.at_.lst.1) h1, h2⟩
  | .ref _, n, v, g, h => (okd_ref g).elim
  | .scr _, n, v, g, h => (okd_scr g).elim
theorem reps_dp : ∀ (ws : List W) (n : Nat) (vs : List V), okds n ws = true → Reps K φ A H ws vs → DpAll K H vs (toDs ws) ∧ PyData.canLayAll0 (toDs ws) = true
  | [], n, vs, _, h => by
    unfold Reps at h; subst h
    exact ⟨.nil, rfl⟩
  | w :: ws, n, vs, g, h => by
    unfold Reps at h
    obtain ⟨v, r, rfl, h1, h2⟩ := h
    obtain ⟨d1, c1⟩ := rep_dp w n v (okds_cons g).1 h1
    obtain ⟨d2, c2⟩ := reps_dp ws n r (okds_cons g).2 h2
    refine ⟨.cons d1 d2, ?_⟩
    rw [toDs, PyData.canLayAll0, c1, c2]; rfl
end
theorem RT.dp {w v} (h : RT K φ A H w v) (g : okd 60 w = true) : Dp K H v (toD w) ∧ SeqAt.shaped (toD w) = true := by
  have hd := okd_depth w 60 g
  have fin : (toD w).canLay0 = true → SeqAt.shaped (toD w) = true := fun e1 => by
    unfold SeqAt.shaped
    rw [e1, Bool.true_and]
    exact decide_eq_true (by omega)
  rcases h with h | ⟨k, ws, a, vs, rfl, rfl, h1, h3⟩
  · obtain ⟨d, c⟩ := rep_dp w 60 v g h
    exact ⟨d, fin c⟩
  · obtain rfl := okd_obj g
    obtain ⟨m, e, g'⟩ := okd_lst g
    obtain ⟨d, c⟩ := reps_dp ws m vs g' h3
    exact ⟨.lst (.of h1.lst.1) d, fin c⟩
theorem flat_rep {x : W} {u : V} (fx : flatW x = true) (hx : Rep K φ A H x u) : L2.flatV u = true := by
  cases x <;> simp only [flatW] at fx <;> try (cases fx)
  · rw [rep_non.mp hx]; rfl
  · rw [rep_bl.mp hx]; rfl
  · rw [rep_int.mp hx]; rfl
  · rw [(rep_str.mp hx).1]; rfl
theorem flat_eqV {x y : W} {u v : V} (fx : flatW x = true) (fy : flatW y = true) (hx : Rep K φ A H x u) (hy : Rep K φ A H y v) : L2.eqV u v = weq x y := by
  cases x <;> simp only [flatW] at fx <;> try (cases fx)
  · rw [rep_non.mp hx]
    cases y <;> simp only [flatW] at fy <;> try (cases fy)
    · rw [rep_non.mp hy]; rfl
    · rw [rep_bl.mp hy]; rfl
    · rw [rep_int.mp hy]; rfl
    · rw [(rep_str.mp hy).1]; rfl
  · rw [rep_bl.mp hx]
    cases y <;> simp only [flatW] at fy <;> try (cases fy)
    · rw [rep_non.mp hy]; rfl
    · rw [rep_bl.mp hy]; rfl
    · rw [rep_int.mp hy]; rfl
    · rw [(rep_str.mp hy).1]; rfl
  · rw [rep_int.mp hx]
    cases y <;> simp only [flatW] at fy <;> try (cases fy)
    · rw [rep_non.mp hy]; rfl
    · rw [rep_bl.mp hy]; rfl
    · rw [rep_int.mp hy]; rfl
    · rw [(rep_str.mp hy).1]; rfl
  · rw [(rep_str.mp hx).1]
    cases y <;> simp only [flatW] at fy <;> try (cases fy)
    · rw [rep_non.mp hy]; rfl
    · rw [rep_bl.mp hy]; rfl
    · rw [rep_int.mp hy]; rfl
    · rw [(rep_str.mp hy).1]; rfl
theorem flats_in {x : W} {u : V} (fx : flatW x = true) (hx : Rep K φ A H x u) : ∀ (ys : List W) (vs : List V), ys.all flatW = true → Reps K φ A H ys vs → vs.all L2.flatV = true ∧ L2.inV u vs = ys.any fun y => weq y x
  | [], vs, _, h => by
    unfold Reps at h; subst h
    exact ⟨rfl, rfl⟩
  | y :: ys, vs, g, h => by
    unfold Reps at h
    obtain ⟨v, r, rfl, h1, h2⟩ := h
    rw [List.all_cons, Bool.and_eq_true] at g
    obtain ⟨q1, q2⟩ := flats_in fx hx ys r g.2 h2
    refine ⟨by rw [List.all_cons, flat_rep g.1 h1, q1]; rfl, ?_⟩
    unfold L2.inV at q2 ⊢
    rw [List.any_cons, List.any_cons, q2, flat_eqV g.1 fx h1 hx]
end

section
variable {X : Cx}
theorem vB_some {o : Option Bool} {r : RV} (h : vB o = some r) : ∃ b, o = some b ∧ r = .v (.bl b) := by
  cases o with
  | none => cases h
  | some b => exact ⟨b, rfl, (Option.some.inj h).symm⟩
theorem oc_eq (hu : X.A.units + 64 < cLine) : OpR X (compareOp .Eq) (rU X.K fun v w => vB (cmp2 .eq v w)) := by
  intro pins s σ H x y v u Q I rx ry h
  obtain ⟨φ, Z, st, σ', w1, w2, r, B, dm, rel, h1, h2, e, q⟩ := h
  obtain ⟨b, e', rfl⟩ := vB_some e
  clear e
  have e := e'
  clear e'
  simp only [cmp2] at e
  split at e
  · rename_i g
    rw [Bool.and_eq_true] at g
    cases e
    obtain ⟨d1, s1⟩ := h1.dp g.1
    obtain ⟨d2, s2⟩ := h2.dp g.2
    refine op_eqD hu pins s σ H x y v u Q I rx ry ⟨_, _, d1, d2, s1, s2, ?_⟩
    rw [← weq_eqv w1 w2 60 60 g.1 g.2]
    exact q H _ .refl ⟨rel, rep_bl.mpr rfl⟩
  · cases e
theorem oc_ne (hu : X.A.units + 64 < cLine) : OpR X (compareOp .NotEq) (rU X.K fun v w => vB (cmp2 .ne v w)) := by
  intro pins s σ H x y v u Q I rx ry h
  obtain ⟨φ, Z, st, σ', w1, w2, r, B, dm, rel, h1, h2, e, q⟩ := h
  obtain ⟨b, e', rfl⟩ := vB_some e
  clear e
  have e := e'
  clear e'
  simp only [cmp2] at e
  split at e
  · rename_i g
    rw [Bool.and_eq_true] at g
    cases e
    obtain ⟨d1, s1⟩ := h1.dp g.1
    obtain ⟨d2, s2⟩ := h2.dp g.2
    refine op_neD hu pins s σ H x y v u Q I rx ry ⟨_, _, d1, d2, s1, s2, ?_⟩
    rw [← weq_eqv w1 w2 60 60 g.1 g.2]
    exact q H _ .refl ⟨rel, rep_bl.mpr rfl⟩
  · cases e
theorem oc_lt : OpR X (compareOp .Lt) (rU X.K fun v w => vB (cmp2 .lt v w)) := by
  intro pins s σ H x y v u Q I rx ry h
  obtain ⟨φ, Z, st, σ', w1, w2, r, B, dm, rel, h1, h2, e, q⟩ := h
  obtain ⟨b, e', rfl⟩ := vB_some e
  clear e
  have e := e'
  clear e'
  cases w1 <;> cases w2 <;> simp only [cmp2] at e <;> try (cases e)
  exact op_lt pins s σ H x y v u Q I rx ry ⟨_, _, h1.int, h2.int, q H _ .refl ⟨rel, rep_bl.mpr rfl⟩⟩
theorem oc_le : OpR X (compareOp .LtE) (rU X.K fun v w => vB (cmp2 .le v w)) := by
  intro pins s σ H x y v u Q I rx ry h
  obtain ⟨φ, Z, st, σ', w1, w2, r, B, dm, rel, h1, h2, e, q⟩ := h
  obtain ⟨b, e', rfl⟩ := vB_some e
  clear e
  have e := e'
  clear e'
  cases w1 <;> cases w2 <;> simp only [cmp2] at e <;> try (cases e)
  exact op_le pins s σ H x y v u Q I rx ry ⟨_, _, h1.int, h2.int, q H _ .refl ⟨rel, rep_bl.mpr rfl⟩⟩
theorem oc_gt : OpR X (compareOp .Gt) (rU X.K fun v w => vB (cmp2 .gt v w)) := by
  intro pins s σ H x y v u Q I rx ry h
  obtain ⟨φ, Z, st, σ', w1, w2, r, B, dm, rel, h1, h2, e, q⟩ := h
  obtain ⟨b, e', rfl⟩ := vB_some e
  clear e
  have e := e'
  clear e'
  cases w1 <;> cases w2 <;> simp only [cmp2] at e <;> try (cases e)
  exact op_gt pins s σ H x y v u Q I rx ry ⟨_, _, h1.int, h2.int, q H _ .refl ⟨rel, rep_bl.mpr rfl⟩⟩
theorem oc_ge : OpR X (compareOp .GtE) (rU X.K fun v w => vB (cmp2 .ge v w)) := by
  intro pins s σ H x y v u Q I rx ry h
  obtain ⟨φ, Z, st, σ', w1, w2, r, B, dm, rel, h1, h2, e, q⟩ := h
  obtain ⟨b, e', rfl⟩ := vB_some e
  clear e
  have e := e'
  clear e'
  cases w1 <;> cases w2 <;> simp only [cmp2] at e <;> try (cases e)
  exact op_ge pins s σ H x y v u Q I rx ry ⟨_, _, h1.int, h2.int, q H _ .refl ⟨rel, rep_bl.mpr rfl⟩⟩
theorem RT.isN {K φ A H w v} (h : RT K φ A H w v) : decide (v = .non) = isNonW w := by
  cases w with
  | non => rw [h.non]; rfl
  | bl b => rw [h.bl]; rfl
  | int b => rw [h.int]; rfl
  | str b => rw [h.str.1]; rfl
  | tup b => obtain ⟨a, vs, e, _⟩ := h.tup; rw [e]; rfl
  | obj k b => obtain ⟨a, vs, e, _⟩ := h.obj; rw [e]; rfl
  | scr b => obtain ⟨a, e, _⟩ := h.scr; rw [e]; rfl
  | ref n =>
    rcases h with h | ⟨_, _, _, _, h, _⟩
    · obtain ⟨a, _, e⟩ := rep_ref.mp h; rw [e]; rfl
    · cases h
theorem oc_isN : OpR X (compareOp .Is) (rU X.K fun v w => vB (cmp2 .isN v w)) := by
  intro pins s σ H x y v u Q I rx ry h
  obtain ⟨φ, Z, st, σ', w1, w2, r, B, dm, rel, h1, h2, e, q⟩ := h
  obtain ⟨b, e', rfl⟩ := vB_some e
  clear e
  have e := e'
  clear e'
  cases w2 with
  | non =>
    refine op_isN pins s σ H x y v u Q I rx ry ⟨h2.non, ?_⟩
    rw [h1.isN]
    refine q H _ .refl ⟨rel, rep_bl.mpr ?_⟩
    simp only [cmp2, Option.some.injEq] at e
    rw [e]
  | _ => simp only [cmp2] at e; cases e
theorem oc_notN : OpR X (compareOp .IsNot) (rU X.K fun v w => vB (cmp2 .notN v w)) := by
  intro pins s σ H x y v u Q I rx ry h
  obtain ⟨φ, Z, st, σ', w1, w2, r, B, dm, rel, h1, h2, e, q⟩ := h
  obtain ⟨b, e', rfl⟩ := vB_some e
  clear e
  have e := e'
  clear e'
  cases w2 with
  | non =>
    refine op_notN pins s σ H x y v u Q I rx ry ⟨h2.non, ?_⟩
    rw [h1.isN]
    refine q H _ .refl ⟨rel, rep_bl.mpr ?_⟩
    simp only [cmp2, Option.some.injEq] at e
    rw [e]
  | _ => simp only [cmp2] at e; cases e
theorem flat_rt {K φ A H x v} (h : RT K φ A H x v) (f : flatW x = true) : Rep K φ A H x v := by
  rcases h with h | ⟨_, _, _, _, rfl, _⟩
  · exact h
  · cases f
theorem oc_in : OpR X (compareOp .In) (rU X.K fun v w => vB (cmp2 .inn v w)) := by
  intro pins s σ H x y v u Q I rx ry h
  obtain ⟨φ, Z, st, σ', w1, w2, r, B, dm, rel, h1, h2, e, q⟩ := h
  obtain ⟨b, e', rfl⟩ := vB_some e
  clear e
  have e := e'
  clear e'
  simp only [cmp2] at e
  cases it : items w2 with
  | none => rw [it] at e; cases e
  | some ws =>
    rw [it, Option.bind_some] at e
    split at e
    · rename_i g
      rw [Bool.and_eq_true] at g
      cases e
      obtain ⟨a, vs, e2, sq, _, rr⟩ := h2.items it
      obtain ⟨f1, f2⟩ := flats_in g.1 (flat_rt h1 g.1) ws vs g.2 rr
      refine op_in_seq pins s σ H x y v u Q I rx ry ⟨a, vs, e2, sq, flat_rep g.1 (flat_rt h1 g.1), f1, ?_⟩
      rw [if_neg Bool.false_ne_true, f2]
      exact q H _ .refl ⟨rel, rep_bl.mpr rfl⟩
    · cases e
theorem oc_nin : OpR X (compareOp .NotIn) (rU X.K fun v w => vB (cmp2 .nin v w)) := by
  intro pins s σ H x y v u Q I rx ry h
  obtain ⟨φ, Z, st, σ', w1, w2, r, B, dm, rel, h1, h2, e, q⟩ := h
  obtain ⟨b, e', rfl⟩ := vB_some e
  clear e
  have e := e'
  clear e'
  simp only [cmp2] at e
  cases it : items w2 with
  | none => rw [it] at e; cases e
  | some ws =>
    rw [it, Option.bind_some] at e
    split at e
    · rename_i g
      rw [Bool.and_eq_true] at g
      cases e
      obtain ⟨a, vs, e2, sq, _, rr⟩ := h2.items it
      obtain ⟨f1, f2⟩ := flats_in g.1 (flat_rt h1 g.1) ws vs g.2 rr
      refine op_notIn_seq pins s σ H x y v u Q I rx ry ⟨a, vs, e2, sq, flat_rep g.1 (flat_rt h1 g.1), f1, ?_⟩
      rw [if_pos rfl, f2]
      exact q H _ .refl ⟨rel, rep_bl.mpr rfl⟩
    · cases e
/-! ### places, slices -/
theorem atI_rep {K φ A H} {ws : List W} {vs : List V} {i : Int} {w : W} (r : Reps K φ A H ws vs) (h : atI ws i = some w) : ∃ v, atI vs i = some v ∧ Rep K φ A H w v := by
  unfold atI at h ⊢
  rw [r.length]
  cases e : ixN ws.length i with
  | none => rw [e] at h; cases h
  | some j =>
    rw [e, Option.bind_some] at h
    rw [Option.bind_some]
    exact r.get h
theorem ix_U : IxR X (rU X.K fun v w => (idx2 v w).map .v) := by
  intro value slice pins s σ H x y v u Q I rx ry h hs
  obtain ⟨φ, Z, st, σ', w1, w2, r, B, dm, rel, h1, h2, e, q⟩ := h
  cases w1 <;> cases w2 <;> simp only [idx2, Option.map_none] at e <;> try (cases e)
  · rename_i xs i
    obtain ⟨w, e1, rfl⟩ := Option.map_eq_some_iff.mp e
    obtain ⟨a, vs, e2, t, rr⟩ := h1.tup
    obtain ⟨z, e3, rz⟩ := atI_rep rr e1
    exact ix_tup value slice pins s σ H x y v u Q I rx ry ⟨a, vs, i, z, e2, h2.int, t.sq, e3, q H _ .refl ⟨rel, rz⟩⟩ hs
  · rename_i k1 xs i
    cases k1 <;> simp only [idx2, Option.map_none] at e <;> try (cases e)
    obtain ⟨w, e1, rfl⟩ := Option.map_eq_some_iff.mp e
    obtain ⟨a, vs, e2, t, _, rr⟩ := h1.lst
    obtain ⟨z, e3, rz⟩ := atI_rep rr e1
    exact ix_list value slice pins s σ H x y v u Q I rx ry ⟨a, vs, i, z, e2, h2.int, .of t, e3, q H _ .refl ⟨rel, rz⟩⟩ hs
  · rename_i ns i
    obtain ⟨w, e9, rfl⟩ := Option.map_eq_some_iff.mp e
    obtain ⟨n, e1, rfl⟩ := Option.map_eq_some_iff.mp e9
    obtain ⟨a, e2, t⟩ := h1.scr
    have e3 : atI (ns.map V.int) i = some (.int n) := by
      unfold atI at e1 ⊢
      rw [List.length_map]
      cases e4 : ixN ns.length i with
      | none => rw [e4] at e1; cases e1
      | some j =>
        rw [e4, Option.bind_some] at e1
        rw [Option.bind_some, List.getElem?_map, e1]; rfl
    exact ix_list value slice pins s σ H x y v u Q I rx ry ⟨a, _, i, _, e2, h2.int, t.sq, e3, q H _ .refl ⟨rel, rep_int.mpr rfl⟩⟩ hs
/-- a slice, by values -/
def rUs (K : PySem.W.Frag) : V → Option Int → Option Int → Hp → VK → Prop := fun x lo hi H Q => ∃ φ Z st σ w r B, Dm B H ∧ Rel K φ Z st σ H ∧ RT K φ (AV Z st.env σ) H w x ∧ slc2 lo hi w = some r ∧ ∀ H' v, Step φ st σ H φ st H' → RRep K B φ Z st σ H' r v → Q v H'
theorem cut_reps {K φ A H} {ws : List W} {vs : List V} {lo hi} (r : Reps K φ A H ws vs) : Reps K φ A H (cutW ws lo hi) (cutV vs lo hi) := by
  unfold cutW cutV
  rw [r.length]
  exact (r.drop _).take _
theorem sl_U : SlR X (rUs X.K) := by
  intro pins s σ H x v vl vu lo hi sl Q I rx hs pl pu h
  obtain ⟨φ, Z, st, σ', w, r, B, dm, rel, h1, e, q⟩ := h
  cases w <;> simp only [slc2] at e <;> try (cases e)
  · rename_i xs
    obtain ⟨a, vs, e2, t, rr⟩ := h1.tup
    refine sl_tupA pins s σ H x v vl vu lo hi sl Q I rx hs pl pu ⟨a, vs, e2, t.sq, fun hw => ?_, fun hw p hp => ?_⟩
    · have ec : cutW xs lo hi = xs := by
        unfold cutW
        rw [← rr.length, hw.1, hw.2, rr.length]; simp
      rw [ec] at q
      exact q H _ .refl ⟨rel, rep_tup.mpr ⟨a, vs, rfl, t, rr⟩⟩
    · exact q _ _ (Step.upd hp) (RRep.newT rel hp (cut_reps rr) (Nat.le_trans (cutV_length _ _ _) t.2))
  · rename_i k1 xs
    cases k1 <;> simp only [slc2] at e <;> try (cases e)
    obtain ⟨a, vs, e2, t, z, rr⟩ := h1.lst
    exact sl_list pins s σ H x v vl vu lo hi sl Q I rx hs pl pu ⟨a, vs, e2, .of t, fun p hp => q _ _ (Step.upd hp) (RRep.new dm rel hp (cut_reps rr) (Nat.le_trans (cutV_length _ _ _) z))⟩
end
end LL

set_option Elab.async false
set_option linter.all false
set_option maxRecDepth 100000
set_option maxHeartbeats 2000000
/-! LLe: the constructs of expressions. -/
namespace LL
open PySem L2
variable [Cs]

section
variable {K : PySem.W.Frag} {ce : Nat → Option Addr} {Wx : WX} {C : CT}
theorem Rel.slot {φ Z st} {σ : St} {H} {i : Nat} {s} (r : Rel K φ Z st σ H) (e : st.env[i]? = some (some s)) : ∃ v, σ[i]? = some (some v) := by
  obtain ⟨v, e1, q⟩ := r.env i s e
  cases s with
  | val w =>
    obtain ⟨u, rfl, _⟩ := q
    exact ⟨u, e1⟩
  | own k ws =>
    obtain ⟨a, vs, rfl, _⟩ := q
    exact ⟨_, e1⟩
/-- a slot's own object is frozen -/
theorem Rel.freeze {φ Z st} {σ : St} {H} {i : Nat} {kk ws} (r : Rel K φ Z st σ H) (e : st.env[i]? = some (some (.own kk ws))) :
    ∃ v, σ[i]? = some (some v) ∧ Rel K φ Z { st with env := st.env.set i (some (.val (.obj kk ws))) } σ H ∧ Rep K φ (AV Z (st.env.set i (some (.val (.obj kk ws)))) σ) H (.obj kk ws) v ∧
      ∀ a, OE (st.env.set i (some (.val (.obj kk ws)))) σ a → OE st.env σ a := by
  obtain ⟨v, e1, q⟩ := r.env i _ e
  obtain ⟨a, vs, rfl, n1, h1, rr⟩ := q
  have hi : i < st.env.length := (List.getElem?_eq_some_iff.mp e).1
  have oe : ∀ b, OE (st.env.set i (some (.val (.obj kk ws)))) σ b → OE st.env σ b ∧ b ≠ a := fun b ⟨j, k', us, e2, e3⟩ => by
    by_cases hj : j = i
    · subst hj
      rw [List.getElem?_set_self hi] at e2; cases e2
    · rw [List.getElem?_set_ne (Ne.symm hj)] at e2
      refine ⟨⟨j, k', us, e2, e3⟩, fun q => ?_⟩
      subst q
      exact hj (r.dis j i k' kk us ws b e2 e e3 e1)
  have av : ∀ b, AV Z (st.env.set i (some (.val (.obj kk ws)))) σ b → AV Z st.env σ b := fun b z => z.elim .inl fun q => .inr (oe b q).1
  have na : ¬ AV Z (st.env.set i (some (.val (.obj kk ws)))) σ a := fun z => by
    rcases z with z | z
    · exact r.hid a ⟨i, kk, ws, e, e1⟩ z
    · exact (oe a z).2 rfl
  have rep : Rep K φ (AV Z (st.env.set i (some (.val (.obj kk ws)))) σ) H (.obj kk ws) (.ref a) := rep_obj.mpr ⟨a, vs, rfl, ⟨h1, n1, na⟩, rr.anti av⟩
  refine ⟨.ref a, e1, ⟨r.sto.anti av, by rw [List.length_set]; exact r.len, fun j s e2 => ?_, fun j k k1 k2 us us' b e2 e3 e4 e5 => ?_, fun b z => r.hid b (oe b z).1, r.zd⟩, rep, fun b z => (oe b z).1⟩
  · by_cases hj : j = i
    · subst hj
      rw [List.getElem?_set_self hi] at e2
      cases e2
      exact ⟨_, e1, .ref a, rfl, rep⟩
    · rw [List.getElem?_set_ne (Ne.symm hj)] at e2
      obtain ⟨v, e3, q⟩ := r.env j s e2
      exact ⟨v, e3, q.anti av⟩
  · have hj : j ≠ i := fun q => by subst q; rw [List.getElem?_set_self hi] at e2; cases e2
    have hk : k ≠ i := fun q => by subst q; rw [List.getElem?_set_self hi] at e3; cases e3
    rw [List.getElem?_set_ne (Ne.symm hj)] at e2
    rw [List.getElem?_set_ne (Ne.symm hk)] at e3
    exact r.dis j k k1 k2 us us' b e2 e3 e4 e5

theorem imp_var {i : Nat} : ∀ σ H Q, tI K ce Wx (evB C (.var i)).v σ H Q → tVar i σ H Q := by
  rintro σ H Q ⟨φ, Z, st, rel, o⟩
  simp only [evB, EB.of] at o
  cases e : st.env[i]? with
  | none => simp only [e] at o; exact o.elim
  | some s =>
    cases s with
    | none => simp only [e] at o; exact o.elim
    | some s =>
      cases s with
      | val w =>
        simp only [e] at o
        obtain ⟨v, e1, u, rfl, q⟩ := rel.env i _ e
        exact ⟨u, e1, o φ H .refl u ⟨rel, q⟩⟩
      | own kk ws =>
        simp only [e] at o
        obtain ⟨v, e1, r2, rep, oe⟩ := rel.freeze e
        exact ⟨v, e1, o φ H ⟨.refl, oe⟩ v ⟨r2, rep⟩⟩
theorem imp_varO {i : Nat} {r} : ∀ σ H Q, tO K ce Wx (opd (.var i) r) σ H Q → tVar i σ H Q := by
  rintro σ H Q ⟨φ, Z, st, rel, o⟩
  simp only [opd] at o
  cases e : st.env[i]? with
  | none => simp only [e] at o; exact o.elim
  | some s =>
    cases s with
    | none => simp only [e] at o; exact o.elim
    | some s =>
      simp only [e] at o
      obtain ⟨v, e1⟩ := rel.slot e
      exact ⟨v, e1, o φ H .refl rel v e1⟩
theorem imp_opd {m : ST → R RV} : ∀ σ H Q, tO K ce Wx (fun st => (m st).bind fun v st => .ok (.v v.w) st) σ H Q → tI K ce Wx m σ H Q := by
  rintro σ H Q ⟨φ, Z, st, rel, o⟩
  refine ⟨φ, Z, st, rel, o.bind fun r st1 φ1 H1 e s1 o1 v rr => ?_⟩
  obtain ⟨r1, r2⟩ := rr.val
  exact o1.ok r1 v r2
/-- a constant -/
theorem imp_c {w : W} {v : V} (hv : ∀ φ Z st σ H, Rel K φ Z st σ H → Rep K φ (AV Z st.env σ) H w v) : ∀ σ H Q, tI K ce Wx (fun st => .ok (.v w) st) σ H Q → tC v σ H Q := by
  rintro σ H Q ⟨φ, Z, st, rel, o⟩
  exact o φ H .refl v ⟨rel, hv φ Z st σ H rel⟩
/-- two operands -/
theorem imp_bin {f : W → W → Option RV} {oa ob : ST → R OV} : ∀ σ H Q, tI K ce Wx (bin1 f oa ob) σ H Q → tOp (rU K f) (tO K ce Wx oa) (tO K ce Wx ob) σ H Q := by
  rintro σ H Q ⟨φ, Z, st, rel, o⟩
  unfold bin1 at o
  refine ⟨φ, Z, st, rel, o.bind fun x st1 φ1 H1 e1 s1 o1 rel1 v1 ov1 => ?_⟩
  refine ⟨φ1, Z, st1, rel1, o1.bind fun y st2 φ2 H2 e2 s2 o2 rel2 v2 ov2 => ?_⟩
  cases d1 : derefV x st2 with
  | none => simp only [d1] at o2; exact o2.elim
  | some w1 =>
    cases d2 : derefV y st2 with
    | none => simp only [d1, d2] at o2; exact o2.elim
    | some w2 =>
      simp only [d1, d2] at o2
      cases ef : f w1 w2 with
      | none => simp only [ef] at o2; exact o2.elim
      | some r =>
        simp only [ef] at o2
        exact ⟨φ2, Z, st2, σ, w1, w2, r, H, (s1.trans s2).ext.dom, rel2, (ov1.step s2).topV rel2 d1, ov2.topV rel2 d2, ef, fun H' v s rr => o2 φ2 H' s v rr⟩
theorem emp_of {φ A H} {ws : List W} {vs : List V} (r : Reps K φ A H ws vs) : (!ws.isEmpty) = !vs.isEmpty := by
  have h := r.length
  cases ws <;> cases vs <;> simp at h <;> rfl
theorem truth_ok {φ A H} {w : W} {v : V} {b : Bool} (h : RT K φ A H w v) (e : truth w = some b) : TruV K v H b := by
  cases w with
  | non => cases e; rw [h.non]; exact rfl
  | bl b => cases e; rw [h.bl]; exact rfl
  | int i => cases e; rw [h.int]; exact rfl
  | tup xs =>
    cases e
    obtain ⟨a, vs, rfl, t, r⟩ := h.tup
    exact .inr (.inl ⟨vs, t.sq, emp_of r⟩)
  | obj k xs =>
    cases k <;> cases e
    obtain ⟨a, vs, rfl, t, _, r⟩ := h.lst
    exact .inl ⟨vs, .of t, emp_of r⟩
  | _ => cases e
/-- an operand as a test -/
theorem imp_tst {oa : ST → R OV} : ∀ σ H Q, tTst K ce Wx (fun st => tst (oa st)) σ H Q → (fun σ H Q => tO K ce Wx oa σ H fun x H' => ∃ k, TruV K x H' k ∧ Q k H') σ H Q := by
  rintro σ H Q ⟨φ, Z, st, rel, o⟩
  unfold tst at o
  refine ⟨φ, Z, st, rel, o.bind fun x st1 φ1 H1 e1 s1 o1 rel1 v1 ov1 => ?_⟩
  cases d1 : derefV x st1 with
  | none => simp only [d1] at o1; exact o1.elim
  | some w =>
    simp only [d1, Option.bind_some] at o1
    cases t : truth w with
    | none => simp only [t] at o1; exact o1.elim
    | some b =>
      simp only [t] at o1
      exact ⟨b, truth_ok (ov1.topV rel1 d1) t, o1.ok rel1⟩
/-- a comparison as a test -/
theorem imp_cmpT {e : IE} {f : W → W → Option Bool} {oa ob : ST → R OV} (he : ∀ i, e ≠ .var i) : ∀ σ H Q, tTst K ce Wx (fun st => tst (opd e (bin1 (fun v w => vB (f v w)) oa ob) st)) σ H Q →
    tTest (tOp (rU K fun v w => vB (f v w)) (tO K ce Wx oa) (tO K ce Wx ob)) σ H Q := by
  rintro σ H Q ⟨φ, Z, st, rel, o⟩
  refine imp_bin (ce := ce) (Wx := Wx) σ H _ ⟨φ, Z, st, rel, ?_⟩
  have eo : opd e (bin1 (fun v w => vB (f v w)) oa ob) st = (bin1 (fun v w => vB (f v w)) oa ob st).bind fun v st => .ok (.v v.w) st := by
    cases e <;> first | rfl | exact (he _ rfl).elim
  unfold tst at o
  dsimp only at o
  rw [eo] at o
  cases hb : bin1 (fun v w => vB (f v w)) oa ob st with
  | bad => rw [hb] at o; exact o
  | exn c fs st' => rw [hb] at o; exact o
  | ok r st1 =>
    rw [hb] at o
    have o : Out K ce Wx (fun φ' Z' st' H' b => Rel K φ' Z' st' σ H' → Q b H') φ Z st σ H (match (derefV (.v r.w) st1).bind truth with | some b => .ok b st1 | none => .bad) := o
    intro φ1 H1 s1 v1 rr
    obtain ⟨rel1, rep1⟩ := rr.val
    simp only [derefV, deref, Option.map_some, Option.bind_some] at o
    -- the value is a bool
    have isb : ∃ b, r = .v (.bl b) := by
      unfold bin1 at hb
      cases h1 : oa st with
      | bad => rw [h1] at hb; cases hb
      | exn => rw [h1] at hb; cases hb
      | ok x st2 =>
        rw [h1] at hb
        simp only [R.bind] at hb
        cases h2 : ob st2 with
        | bad => rw [h2] at hb; cases hb
        | exn => rw [h2] at hb; cases hb
        | ok y st3 =>
          rw [h2] at hb
          simp only at hb
          split at hb
          · split at hb
            · rename_i r' hr
              cases hb
              obtain ⟨b, _, e⟩ := vB_some hr
              exact ⟨b, e⟩
            · cases hb
          · cases hb
    obtain ⟨b, rfl⟩ := isb
    refine ⟨b, rep_bl.mp rep1, ?_⟩
    exact o φ1 H1 s1 rel1
/-- arguments -/
theorem imp_anil : ∀ σ H Q, tAr K ce Wx (evA C .nil) σ H Q → tNil σ H Q := by
  rintro σ H Q ⟨φ, Z, st, rel, o⟩
  simp only [evA] at o
  exact o.ok rel [] .nil
theorem imp_acons {e : IE} {r : IA} : ∀ σ H Q, tAr K ce Wx (evA C (.cons e r)) σ H Q → tCons (tI K ce Wx (evB C e).v) (tAr K ce Wx (evA C r)) σ H Q := by
  rintro σ H Q ⟨φ, Z, st, rel, o⟩
  simp only [evA] at o
  refine ⟨φ, Z, st, rel, o.bind fun x st1 φ1 H1 e1 s1 o1 v1 rr => ?_⟩
  obtain ⟨rel1, rep1⟩ := rr.val
  refine ⟨φ1, Z, st1, rel1, o1.bind fun xs st2 φ2 H2 e2 s2 o2 rel2 vs rs => ?_⟩
  exact o2.ok rel2 _ (.cons (s2.rep rep1) rs)
theorem imp_onil : ∀ σ H Q, tOs K ce Wx (evO C .nil) σ H Q → tNil σ H Q := by
  rintro σ H Q ⟨φ, Z, st, rel, o⟩
  simp only [evO] at o
  exact o.ok rel [] rfl
theorem OVs.step {φ φ' Z st st' H H'} {σ : St} (s : Step φ st σ H φ' st' H') : ∀ {os vs}, OVs K φ (AV Z st.env σ) H σ os vs → OVs K φ' (AV Z st'.env σ) H' σ os vs
  | [], _, h => h
  | o :: os, _, h => by
    obtain ⟨v, r, e, h1, h2⟩ := h
    exact ⟨v, r, e, h1.step s, OVs.step s h2⟩
theorem imp_ocons {e : IE} {r : IA} : ∀ σ H Q, tOs K ce Wx (evO C (.cons e r)) σ H Q → tCons (tO K ce Wx (opd e (evB C e).v)) (tOs K ce Wx (evO C r)) σ H Q := by
  rintro σ H Q ⟨φ, Z, st, rel, o⟩
  simp only [evO] at o
  refine ⟨φ, Z, st, rel, o.bind fun x st1 φ1 H1 e1 s1 o1 rel1 v1 ov1 => ?_⟩
  refine ⟨φ1, Z, st1, rel1, o1.bind fun xs st2 φ2 H2 e2 s2 o2 rel2 vs rs => ?_⟩
  exact o2.ok rel2 _ ⟨v1, vs, rfl, ov1.step s2, rs⟩
/-- RTs of a list of operands -/
def RTs (K : PySem.W.Frag) (φ : List Addr) (A : Addr → Prop) (H : Hp) : List W → List V → Prop
  | [], vs => vs = []
  | w :: ws, vs => ∃ v r, vs = v :: r ∧ RT K φ A H w v ∧ RTs K φ A H ws r
theorem OVs.top {φ Z st} {σ : St} {H} (rel : Rel K φ Z st σ H) : ∀ {os vs ws}, OVs K φ (AV Z st.env σ) H σ os vs → derefs st os = some ws → RTs K φ (AV Z st.env σ) H ws vs
  | [], _, _, h, e => by
    cases e
    exact h
  | o :: os, _, ws, h, e => by
    obtain ⟨v, r, e1, h1, h2⟩ := h
    unfold derefs at e
    cases d : derefV o st with
    | none => rw [d] at e; cases e
    | some w =>
      rw [d, Option.bind_some] at e
      obtain ⟨ws', e2, rfl⟩ := Option.map_eq_some_iff.mp e
      exact ⟨v, r, e1, h1.topV rel d, OVs.top rel h2 e2⟩
/-- displays -/
theorem imp_tup {a : IA} : ∀ σ H Q, tI K ce Wx (evB C (.tup a)).v σ H Q → tTup (tAr K ce Wx (evA C a)) σ H Q := by
  rintro σ H Q ⟨φ, Z, st, rel, o⟩
  simp only [evB, EB.of] at o
  refine ⟨φ, Z, st, rel, o.bind fun ws st1 φ1 H1 e1 s1 o1 rel1 vs rs => ?_⟩
  split at o1
  · rename_i hz
    have hz' : vs.length ≤ sizeLine := by rw [rs.length]; exact of_decide_eq_true hz
    refine ⟨hz', fun p hp => ?_⟩
    exact o1 φ1 _ (Step.upd hp) _ (RRep.newT rel1 hp rs hz')
  · exact o1.elim
theorem imp_lst {a : IA} : ∀ σ H Q, tI K ce Wx (evB C (.lst a)).v σ H Q → tLst (tAr K ce Wx (evA C a)) σ H Q := by
  rintro σ H Q ⟨φ, Z, st, rel, o⟩
  simp only [evB, EB.of] at o
  refine ⟨φ, Z, st, rel, o.bind fun ws st1 φ1 H1 e1 s1 o1 rel1 vs rs => ?_⟩
  split at o1
  · rename_i hz
    have hz' : vs.length ≤ sizeLine := by rw [rs.length]; exact of_decide_eq_true hz
    refine ⟨hz', fun p hp => ?_⟩
    exact o1 φ1 _ (Step.upd hp) _ (RRep.new s1.ext.dom rel1 hp rs hz')
  · exact o1.elim
/-- and, or, not, if: values -/
theorem imp_andV {a b : IE} : ∀ σ H Q, tI K ce Wx (evB C (.andE a b)).v σ H Q → tAndV (tI K ce Wx (evB C a).v) (tI K ce Wx (evB C b).v) σ H Q := by
  rintro σ H Q ⟨φ, Z, st, rel, o⟩
  simp only [evB] at o
  refine ⟨φ, Z, st, rel, o.bind fun r st1 φ1 H1 e1 s1 o1 v1 rr => ?_⟩
  split at o1
  · obtain ⟨rel1, rep1⟩ := rr
    refine ⟨true, rep_bl.mp rep1, ?_⟩
    rw [if_pos rfl]
    exact ⟨φ1, Z, st1, rel1, o1.imp fun _ _ _ _ _ h v rr => h v (rr.base s1.ext.dom)⟩
  · obtain ⟨rel1, rep1⟩ := rr
    refine ⟨false, rep_bl.mp rep1, ?_⟩
    rw [if_neg Bool.false_ne_true]
    exact o1.ok _ ⟨rel1, rep_bl.mpr rfl⟩
  · exact o1.elim
theorem imp_orV {a b : IE} : ∀ σ H Q, tI K ce Wx (evB C (.orE a b)).v σ H Q → tOrV (tI K ce Wx (evB C a).v) (tI K ce Wx (evB C b).v) σ H Q := by
  rintro σ H Q ⟨φ, Z, st, rel, o⟩
  simp only [evB] at o
  refine ⟨φ, Z, st, rel, o.bind fun r st1 φ1 H1 e1 s1 o1 v1 rr => ?_⟩
  split at o1
  · obtain ⟨rel1, rep1⟩ := rr
    refine ⟨true, rep_bl.mp rep1, ?_⟩
    rw [if_pos rfl]
    exact o1.ok _ ⟨rel1, rep_bl.mpr rfl⟩
  · obtain ⟨rel1, rep1⟩ := rr
    refine ⟨false, rep_bl.mp rep1, ?_⟩
    rw [if_neg Bool.false_ne_true]
    exact ⟨φ1, Z, st1, rel1, o1.imp fun _ _ _ _ _ h v rr => h v (rr.base s1.ext.dom)⟩
  · exact o1.elim
theorem imp_notV {a : IE} : ∀ σ H Q, tI K ce Wx (evB C (.notE a)).v σ H Q → tNotV (tI K ce Wx (evB C a).v) σ H Q := by
  rintro σ H Q ⟨φ, Z, st, rel, o⟩
  simp only [evB] at o
  refine ⟨φ, Z, st, rel, o.bind fun r st1 φ1 H1 e1 s1 o1 v1 rr => ?_⟩
  split at o1
  · obtain ⟨rel1, rep1⟩ := rr
    exact ⟨_, rep_bl.mp rep1, o1.ok _ ⟨rel1, rep_bl.mpr rfl⟩⟩
  · exact o1.elim
theorem imp_ifV {c a b : IE} : ∀ σ H Q, tI K ce Wx (evB C (.ifE c a b)).v σ H Q → tIf (tTst K ce Wx (evB C c).t) (tI K ce Wx (evB C a).v) (tI K ce Wx (evB C b).v) σ H Q := by
  rintro σ H Q ⟨φ, Z, st, rel, o⟩
  simp only [evB, EB.of] at o
  refine ⟨φ, Z, st, rel, o.bind fun k st1 φ1 H1 e1 s1 o1 rel1 => ?_⟩
  cases k with
  | true =>
    rw [if_pos rfl] at o1 ⊢
    refine ⟨φ1, Z, st1, rel1, o1.bind fun r st2 φ2 H2 e2 s2 o2 v2 rr => ?_⟩
    exact o2.ok _ rr.val
  | false =>
    rw [if_neg Bool.false_ne_true] at o1 ⊢
    refine ⟨φ1, Z, st1, rel1, o1.bind fun r st2 φ2 H2 e2 s2 o2 v2 rr => ?_⟩
    exact o2.ok _ rr.val
/-- .. tests -/
theorem imp_andT {a b : IE} : ∀ σ H Q, tTst K ce Wx (evB C (.andE a b)).t σ H Q → tAnd (tTst K ce Wx (evB C a).t) (tTst K ce Wx (evB C b).t) σ H Q := by
  rintro σ H Q ⟨φ, Z, st, rel, o⟩
  simp only [evB] at o
  refine ⟨φ, Z, st, rel, o.bind fun c st1 φ1 H1 e1 s1 o1 rel1 => ?_⟩
  cases c with
  | true =>
    rw [if_pos rfl] at o1 ⊢
    exact ⟨φ1, Z, st1, rel1, o1⟩
  | false =>
    rw [if_neg Bool.false_ne_true] at o1 ⊢
    exact o1.ok rel1
theorem imp_orT {a b : IE} : ∀ σ H Q, tTst K ce Wx (evB C (.orE a b)).t σ H Q → tOr (tTst K ce Wx (evB C a).t) (tTst K ce Wx (evB C b).t) σ H Q := by
  rintro σ H Q ⟨φ, Z, st, rel, o⟩
  simp only [evB] at o
  refine ⟨φ, Z, st, rel, o.bind fun c st1 φ1 H1 e1 s1 o1 rel1 => ?_⟩
  cases c with
  | true =>
    rw [if_pos rfl] at o1 ⊢
    exact o1.ok rel1
  | false =>
    rw [if_neg Bool.false_ne_true] at o1 ⊢
    exact ⟨φ1, Z, st1, rel1, o1⟩
theorem imp_notT {a : IE} : ∀ σ H Q, tTst K ce Wx (evB C (.notE a)).t σ H Q → tNot (tTst K ce Wx (evB C a).t) σ H Q := by
  rintro σ H Q ⟨φ, Z, st, rel, o⟩
  simp only [evB] at o
  refine ⟨φ, Z, st, rel, o.bind fun c st1 φ1 H1 e1 s1 o1 rel1 => ?_⟩
  exact o1.ok rel1
end
end LL

set_option Elab.async false
set_option linter.all false
set_option maxRecDepth 100000
set_option maxHeartbeats 2000000
/-! LLf: slices, calls, pop, comprehensions. -/
namespace LL
open PySem L2
variable [Cs]

/-! ### calls of defs -/
/-- a call's result -/
def RRepS (K : PySem.W.Frag) (φ : List Addr) (A : Addr → Prop) (H0 H : Hp) (S : List SO) : RV → V → Prop
  | .v w, v => RelS K φ A H S ∧ Rep K φ A H w v
  | .f k ws, v => ∃ p vs, v = .ref p ∧ H0 p = none ∧ p ∉ φ ∧ ¬ A p ∧ At H p k vs ∧ RelS K φ (fun a => A a ∨ a = p) H S ∧ Reps K φ (fun a => A a ∨ a = p) H ws vs
/-- the promise of a def: what the interpreter says of it -/
def spC (K : PySem.W.Frag) (ce : Nat → Option Addr) (C : CT) (f : Nat) (n : Nat) : Sp := fun vs H Q E => vs.length = n ∧ ∃ φ A S ws, RelS K φ A H S ∧ (∀ a, A a → ∃ o, H a = some o) ∧ Reps K φ A H ws vs ∧ match C f ws S with
  | .ok r S' => ∀ φ' H' v, Ext φ (fun _ => False) H φ' H' → RRepS K φ' A H H' S' r v → Q v H'
  | .exn c fs S' => ∀ φ' H' cls d, Ext φ (fun _ => False) H φ' H' → RelS K φ' A H' S' → ExnR K ce φ' A H' c fs cls d → E cls d H'
  | .bad => False
section
variable {K : PySem.W.Frag} {ce : Nat → Option Addr} {Wx : WX} {C : CT}
/-- behind a call: the frame's own things stand -/
theorem Rel.after {φ φ' Z st} {σ : St} {H H'} {S'} (r : Rel K φ Z st σ H) (e : Ext φ (fun _ => False) H φ' H') (s : RelS K φ' (AV Z st.env σ) H' S') : Rel K φ' Z { st with sto := S' } σ H' := by
  refine ⟨s, r.len, fun i sl e1 => ?_, r.dis, r.hid, fun a z => ?_⟩
  · obtain ⟨v, e2, q⟩ := r.env i sl e1
    refine ⟨v, e2, ?_⟩
    cases sl with
    | val w =>
      obtain ⟨u, e3, rr⟩ := q
      exact ⟨u, e3, rr.ext e fun _ z => z.elim⟩
    | own k ws =>
      obtain ⟨a, vs, e3, n, h, rr⟩ := q
      exact ⟨a, vs, e3, h.notin e n, h.ext e n (fun z => z), rr.ext e fun _ z => z.elim⟩
  · obtain ⟨o, q⟩ := r.zd a z
    exact e.dom a o q
def IA.len : IA → Nat
  | .nil => 0
  | .cons _ r => r.len + 1
theorem evA_len : ∀ {a : IA} {st st' : ST} {ws : List W}, evA C a st = .ok ws st' → ws.length = a.len
  | .nil, st, st', ws, h => by
    simp only [evA] at h
    cases h; rfl
  | .cons e r, st, st', ws, h => by
    simp only [evA] at h
    cases h1 : (evB C e).v st with
    | bad => rw [h1] at h; cases h
    | exn => rw [h1] at h; cases h
    | ok x st1 =>
      rw [h1] at h
      simp only [R.bind] at h
      cases h2 : evA C r st1 with
      | bad => rw [h2] at h; cases h
      | exn => rw [h2] at h; cases h
      | ok xs st2 =>
        rw [h2] at h
        cases h
        rw [List.length_cons, evA_len h2]; rfl
theorem imp_call {f : Nat} {a : IA} : ∀ σ H Q, tI K ce Wx (evB C (.call f a)).v σ H Q → tCallS (spC K ce C f a.len) (WE Wx) (tAr K ce Wx (evA C a)) σ H Q := by
  rintro σ H Q ⟨φ, Z, st, rel, o⟩
  simp only [evB, EB.of] at o
  refine ⟨φ, Z, st, rel, o.bind fun ws st1 φ1 H1 e1 s1 o1 rel1 vs rs => ?_⟩
  refine ⟨by rw [rs.length]; exact evA_len e1, φ1, AV Z st1.env σ, st1.sto, ws, rel1.sto, fun b z => ?_, rs, ?_⟩
  · rcases z with z | ⟨i, kk, us, e2, e3⟩
    · exact rel1.zd b z
    · obtain ⟨v, e4, b', xs, e5, _, ⟨o, h, _⟩, _⟩ := rel1.env i _ e2
      rw [e3] at e4; cases e4; cases e5
      exact ⟨_, h⟩
  · unfold callR at o1
    cases hc : C f ws st1.sto with
    | bad => rw [hc] at o1; exact o1.elim
    | exn c fs S' =>
      rw [hc] at o1
      intro φ' H' cls d e s' x
      exact o1 φ' H' cls d ⟨e.weak fun _ z => z.elim, fun _ z => z⟩ (rel1.after e s') x
    | ok r S' =>
      rw [hc] at o1
      intro φ' H' v e rr
      refine o1 φ' H' ⟨e.weak fun _ z => z.elim, fun _ z => z⟩ v ?_
      cases r with
      | v w => exact ⟨rel1.after e rr.1, rr.2⟩
      | f kf us =>
        obtain ⟨p, xs, rfl, h0, n1, n2, h1, s1', r1⟩ := rr
        have k : ∀ a, AV (fun a => Z a ∨ a = p) st1.env σ a → AV Z st1.env σ a ∨ a = p := fun a z => by
          rcases z with (z | z) | z
          · exact .inl (.inl z)
          · exact .inr z
          · exact .inl (.inr z)
        have base := rel1.after e (s1'.anti fun a z => .inl z)
        refine ⟨p, xs, rfl, Dm.none s1.ext.dom h0, n1, n2, h1, ⟨s1'.anti k, base.len, fun i sl e2 => ?_, base.dis, fun b z q => ?_, fun b z => ?_⟩, r1.anti k⟩
        · -- what the frame holds avoids the new list: it stood before
          obtain ⟨v, e3, q⟩ := rel1.env i sl e2
          refine ⟨v, e3, ?_⟩
          have up : ∀ {w : W} {u : V}, Rep K φ1 (AV Z st1.env σ) H1 w u → Rep K φ' (AV (fun a => Z a ∨ a = p) st1.env σ) H' w u := fun {w u} h =>
            (Rep.ext e (fun _ z => z.elim) (h.apart h0)).anti k
          have ups : ∀ {w : List W} {u : List V}, Reps K φ1 (AV Z st1.env σ) H1 w u → Reps K φ' (AV (fun a => Z a ∨ a = p) st1.env σ) H' w u := fun {w u} h =>
            (Reps.ext e (fun _ z => z.elim) (h.apart h0)).anti k
          cases sl with
          | val w =>
            obtain ⟨u, e4, rr⟩ := q
            exact ⟨u, e4, up rr⟩
          | own kk ws =>
            obtain ⟨a, vs, e4, n, h, rr⟩ := q
            exact ⟨a, vs, e4, h.notin e n, h.ext e n (fun z => z), ups rr⟩
        · rcases q with q | q
          · exact base.hid b z q
          · subst q
            exact n2 (.inr z)
        · rcases z with z | z
          · exact base.zd b z
          · obtain ⟨o, h1, _⟩ := h1
            exact ⟨o, by rw [z]; exact h1⟩
end

/-! ### slices -/
section
variable {K : PySem.W.Frag} {ce : Nat → Option Addr} {Wx : WX} {C : CT}
theorem toI_int {φ A H} {w : W} {v : V} {i : Int} (h : RT K φ A H w v) (e : toI w = some i) : v = .int i := by
  cases w <;> simp only [toI] at e <;> cases e
  exact h.int
theorem imp_from {oa ob : ST → R OV} : ∀ σ H Q, tI K ce Wx (bin1 (fun v w => (toI w).bind fun i => slc2 (some i) none v) oa ob) σ H Q → tSl (rUs K) (tO K ce Wx oa) (tPart (tO K ce Wx ob)) tNoPart σ H Q := by
  rintro σ H Q ⟨φ, Z, st, rel, o⟩
  unfold bin1 at o
  refine ⟨φ, Z, st, rel, o.bind fun x st1 φ1 H1 e1 s1 o1 rel1 v1 ov1 => ?_⟩
  refine ⟨φ1, Z, st1, rel1, o1.bind fun y st2 φ2 H2 e2 s2 o2 rel2 v2 ov2 => ?_⟩
  cases d1 : derefV x st2 with
  | none => simp only [d1] at o2; exact o2.elim
  | some w1 =>
    cases d2 : derefV y st2 with
    | none => simp only [d1, d2] at o2; exact o2.elim
    | some w2 =>
      simp only [d1, d2] at o2
      cases ei : toI w2 with
      | none => simp only [ei, Option.bind_none] at o2; exact o2.elim
      | some i =>
        simp only [ei, Option.bind_some] at o2
        cases ef : slc2 (some i) none w1 with
        | none => simp only [ef] at o2; exact o2.elim
        | some r =>
          simp only [ef] at o2
          exact ⟨i, toI_int (ov2.topV rel2 d2) ei, φ2, Z, st2, σ, w1, r, H, (s1.trans s2).ext.dom, rel2, (ov1.step s2).topV rel2 d1, ef, fun H' v s rr => o2 φ2 H' s v rr⟩
theorem imp_upto {oa ob : ST → R OV} : ∀ σ H Q, tI K ce Wx (bin1 (fun v w => (toI w).bind fun i => slc2 none (some i) v) oa ob) σ H Q → tSl (rUs K) (tO K ce Wx oa) tNoPart (tPart (tO K ce Wx ob)) σ H Q := by
  rintro σ H Q ⟨φ, Z, st, rel, o⟩
  unfold bin1 at o
  refine ⟨φ, Z, st, rel, o.bind fun x st1 φ1 H1 e1 s1 o1 rel1 v1 ov1 => ?_⟩
  refine ⟨φ1, Z, st1, rel1, o1.bind fun y st2 φ2 H2 e2 s2 o2 rel2 v2 ov2 => ?_⟩
  cases d1 : derefV x st2 with
  | none => simp only [d1] at o2; exact o2.elim
  | some w1 =>
    cases d2 : derefV y st2 with
    | none => simp only [d1, d2] at o2; exact o2.elim
    | some w2 =>
      simp only [d1, d2] at o2
      cases ei : toI w2 with
      | none => simp only [ei, Option.bind_none] at o2; exact o2.elim
      | some i =>
        simp only [ei, Option.bind_some] at o2
        cases ef : slc2 none (some i) w1 with
        | none => simp only [ef] at o2; exact o2.elim
        | some r =>
          simp only [ef] at o2
          exact ⟨i, toI_int (ov2.topV rel2 d2) ei, φ2, Z, st2, σ, w1, r, H, (s1.trans s2).ext.dom, rel2, (ov1.step s2).topV rel2 d1, ef, fun H' v s rr => o2 φ2 H' s v rr⟩
theorem imp_cut {oa ob oc : ST → R OV} : ∀ σ H Q, tI K ce Wx (cut1 oa ob oc) σ H Q → tSl (rUs K) (tO K ce Wx oa) (tPart (tO K ce Wx ob)) (tPart (tO K ce Wx oc)) σ H Q := by
  rintro σ H Q ⟨φ, Z, st, rel, o⟩
  unfold cut1 at o
  refine ⟨φ, Z, st, rel, o.bind fun x st1 φ1 H1 e1 s1 o1 rel1 v1 ov1 => ?_⟩
  refine ⟨φ1, Z, st1, rel1, o1.bind fun y st2 φ2 H2 e2 s2 o2 rel2 v2 ov2 => ?_⟩
  cases d2 : derefV y st2 with
  | none => simp only [d2, Option.bind_none] at o2; exact o2.elim
  | some w2 =>
    cases ei : toI w2 with
    | none => simp only [d2, ei, Option.bind_some] at o2; exact o2.elim
    | some i =>
      simp only [d2, ei, Option.bind_some] at o2
      refine ⟨i, toI_int (ov2.topV rel2 d2) ei, φ2, Z, st2, rel2, o2.bind fun z st3 φ3 H3 e3 s3 o3 rel3 v3 ov3 => ?_⟩
      cases d1 : derefV x st3 with
      | none => simp only [d1] at o3; exact o3.elim
      | some w1 =>
        cases d3 : derefV z st3 with
        | none => simp only [d1, d3, Option.bind_none] at o3; exact o3.elim
        | some w3 =>
          cases ej : toI w3 with
          | none => simp only [d1, d3, ej, Option.bind_some] at o3; exact o3.elim
          | some j =>
            simp only [d1, d3, ej, Option.bind_some] at o3
            cases ef : slc2 (some i) (some j) w1 with
            | none => simp only [ef] at o3; exact o3.elim
            | some r =>
              simp only [ef] at o3
              exact ⟨j, toI_int (ov3.topV rel3 d3) ej, φ3, Z, st3, σ, w1, r, H, ((s1.trans s2).trans s3).ext.dom, rel3, ((ov1.step s2).step s3).topV rel3 d1, ef, fun H' v s rr => o3 φ3 H' s v rr⟩
theorem imp_rev {oa : ST → R OV} : ∀ σ H Q, tI K ce Wx (fun st => un1 (fun v => match v with | .obj .lst xs => some (.f .lst xs.reverse) | _ => none) (oa st)) σ H Q → tRevL K (tO K ce Wx oa) σ H Q := by
  rintro σ H Q ⟨φ, Z, st, rel, o⟩
  unfold un1 at o
  refine ⟨φ, Z, st, rel, o.bind fun x st1 φ1 H1 e1 s1 o1 rel1 v1 ov1 => ?_⟩
  cases d1 : derefV x st1 with
  | none => simp only [d1] at o1; exact o1.elim
  | some w =>
    simp only [d1, Option.bind_some] at o1
    cases w with
    | obj k xs =>
      cases k with
      | lst =>
        simp only at o1
        obtain ⟨a, vs, rfl, t, z, rr⟩ := (ov1.topV rel1 d1).lst
        exact ⟨a, vs, rfl, .of t, fun p hp => o1 φ1 _ (Step.upd hp) _ (RRep.new s1.ext.dom rel1 hp rr.rev (by rw [List.length_reverse]; exact z))⟩
      | _ => exact o1.elim
    | _ => exact o1.elim
/-! ### methods of one argument -/
theorem imp_meth1 {T : String} {chk : W → Bool} {f : W → W → Option RV} {rr : V → List V → Hp → VK → Prop} {oa ob : ST → R OV}
    (hty : ∀ {φ A H w x}, RT K φ A H w x → chk w = true → tyV K T x H) (hr : ∀ x y H Q, rU K f x y H Q → rr x [y] H Q) :
    ∀ σ H Q, tI K ce Wx (meth1 chk f oa ob) σ H Q → tBM K T rr (tO K ce Wx oa) (tCons (tO K ce Wx ob) tNil) σ H Q := by
  rintro σ H Q ⟨φ, Z, st, rel, o⟩
  unfold meth1 at o
  refine ⟨φ, Z, st, rel, o.bind fun x st1 φ1 H1 e1 s1 o1 rel1 v1 ov1 => ?_⟩
  split at o1
  · rename_i hc
    obtain ⟨w0, d0, c0⟩ := Option.map_eq_some_iff.mp hc
    refine ⟨hty (ov1.topV rel1 d0) c0, φ1, Z, st1, rel1, o1.bind fun y st2 φ2 H2 e2 s2 o2 rel2 v2 ov2 => hr _ _ _ _ ?_⟩
    cases d1 : derefV x st2 with
    | none => simp only [d1] at o2; exact o2.elim
    | some w1 =>
      cases d2 : derefV y st2 with
      | none => simp only [d1, d2] at o2; exact o2.elim
      | some w2 =>
        simp only [d1, d2] at o2
        cases ef : f w1 w2 with
        | none => simp only [ef] at o2; exact o2.elim
        | some r =>
          simp only [ef] at o2
          exact ⟨φ2, Z, st2, σ, w1, w2, r, H, (s1.trans s2).ext.dom, rel2, (ov1.step s2).topV rel2 d1, ov2.topV rel2 d2, ef, fun H' v s rr => o2 φ2 H' s v rr⟩
  · exact o1.elim
theorem RT.lstTy {φ A H w x} (h : RT K φ A H w x) (c : isLst w = true) : tyV K "list" x H := by
  cases w with
  | obj k xs =>
    cases k with
    | lst =>
      obtain ⟨a, vs, rfl, t, _⟩ := h.lst
      exact .inl ⟨rfl, vs, .of t⟩
    | _ => cases c
  | _ => cases c
theorem findW_at {φ A H} {x : W} {u : V} (fx : flatW x = true) (hx : Rep K φ A H x u) : ∀ {ys : List W} {vs : List V} {j : Nat}, ys.all flatW = true → Reps K φ A H ys vs → findW x ys = some j →
    ∃ z, vs[j]? = some z ∧ L2.eqV z u = true ∧ ∀ (m : Nat) (z' : V), m < j → vs[m]? = some z' → L2.eqV z' u = false
  | [], _, _, _, _, e => by cases e
  | y :: ys, vs, j, g, h, e => by
    unfold Reps at h
    obtain ⟨v, r, rfl, h1, h2⟩ := h
    rw [List.all_cons, Bool.and_eq_true] at g
    have ev := flat_eqV g.1 fx h1 hx
    unfold findW at e
    split at e
    · rename_i hy
      cases e
      exact ⟨v, rfl, by rw [ev]; exact hy, fun m _ hm => absurd hm (Nat.not_lt_zero _)⟩
    · rename_i hy
      obtain ⟨i, ei, rfl⟩ := Option.map_eq_some_iff.mp e
      obtain ⟨z, z1, z2, z3⟩ := findW_at fx hx g.2 h2 ei
      refine ⟨z, by simpa using z1, z2, fun m z' hm hz => ?_⟩
      cases m with
      | zero =>
        simp at hz
        rw [← hz, ev]
        simpa using hy
      | succ m => exact z3 m z' (by omega) (by simpa using hz)
theorem idxOf_r : ∀ x y H Q, rU K idxOf2 x y H Q → rIndex K x [y] H Q := by
  rintro x y H Q ⟨φ, Z, st, σ, w1, w2, r, B, dm, rel, h1, h2, e, q⟩
  cases w1 with
  | obj k xs =>
    cases k with
    | lst =>
      simp only [idxOf2] at e
      split at e
      · rename_i g
        rw [Bool.and_eq_true] at g
        obtain ⟨j, ej, rfl⟩ := Option.map_eq_some_iff.mp e
        obtain ⟨a, vs, rfl, t, _, rr⟩ := h1.lst
        have h2' := flat_rt h2 g.1
        obtain ⟨z, z1, z2, z3⟩ := findW_at g.1 h2' g.2 rr ej
        obtain ⟨f1, _⟩ := flats_in g.1 h2' xs vs g.2 rr
        exact ⟨a, vs, y, j, z, rfl, rfl, .of t, flat_rep g.1 h2', f1, z1, z2, z3, q H _ .refl ⟨rel, rep_int.mpr rfl⟩⟩
      · cases e
    | _ => cases e
  | _ => cases e
/-! ### words, types -/
theorem strsW_eq : ∀ {ws : List W} {xs : List Str}, strsW ws = some xs → ws = xs.map W.str
  | [], xs, h => by cases h; rfl
  | w :: ws, xs, h => by
    cases w with
    | str x =>
      simp only [strsW] at h
      cases e : strsW ws with
      | none => rw [e] at h; cases h
      | some ys =>
        rw [e] at h
        cases h
        rw [strsW_eq e]; rfl
    | _ => cases h
theorem reps_strs : ∀ {xs : List Str} {φ : List Addr} {A : Addr → Prop} {H : Hp}, (∀ x ∈ xs, PyData.strOk x = true) → Reps K φ A H (xs.map W.str) (xs.map V.str)
  | [], _, _, _, _ => .nil
  | x :: xs, _, _, _, h => .cons (rep_str.mpr ⟨rfl, h x List.mem_cons_self⟩) (reps_strs fun y hy => h y (List.mem_cons_of_mem _ hy))
theorem imp_setLen {oa : ST → R OV} : ∀ σ H Q, tI K ce Wx (fun st => un1 (fun v => match v with
    | .tup xs => (strsW xs).bind fun ys => if decide (ys.length + 1 < scanBound) then some (.v (.int (news ys ys.length : Nat))) else none
    | _ => none) (oa st)) σ H Q → tLenW K (tO K ce Wx oa) σ H Q := by
  rintro σ H Q ⟨φ, Z, st, rel, o⟩
  unfold un1 at o
  refine ⟨φ, Z, st, rel, o.bind fun x st1 φ1 H1 e1 s1 o1 rel1 v1 ov1 => ?_⟩
  cases d1 : derefV x st1 with
  | none => simp only [d1] at o1; exact o1.elim
  | some w =>
    simp only [d1, Option.bind_some] at o1
    cases w with
    | tup xs =>
      simp only at o1
      cases es : strsW xs with
      | none => simp only [es] at o1; exact o1.elim
      | some ys =>
        simp only [es, Option.bind_some] at o1
        obtain ⟨a, vs, rfl, t, rr⟩ := (ov1.topV rel1 d1).tup
        obtain ⟨rfl, _⟩ := rr.strs (strsW_eq es)
        by_cases hz : ys.length + 1 < scanBound
        · rw [if_pos (decide_eq_true hz)] at o1
          exact ⟨a, ys, rfl, t.sq, hz, o1.ok _ ⟨rel1, rep_int.mpr rfl⟩⟩
        · rw [if_neg (by simpa using hz)] at o1
          exact o1.elim
    | _ => exact o1.elim
def tyW : W → String
  | .non => "NoneType"
  | .bl _ => "bool"
  | .int _ => "int"
  | .str _ => "str"
  | .tup _ => "tuple"
  | .obj (.dct _ _) _ => "dict"
  | _ => "list"
def tnS : Tn → String
  | .tuple => "tuple"
  | .list => "list"
  | .str => "str"
  | .int => "int"
  | .bool => "bool"
theorem kit_tn : ∀ (w : W) (t : Tn) (b : Bool), isTn w t = some b → kitB (tyW w) (tnS t) = some b
  | .non, t, b, e => by cases t <;> cases e <;> decide +kernel
  | .bl _, t, b, e => by cases t <;> cases e <;> (show kitB "bool" _ = _; decide +kernel)
  | .int _, t, b, e => by cases t <;> cases e <;> (show kitB "int" _ = _; decide +kernel)
  | .str _, t, b, e => by cases t <;> cases e <;> (show kitB "str" _ = _; decide +kernel)
  | .tup _, t, b, e => by cases t <;> cases e <;> (show kitB "tuple" _ = _; decide +kernel)
  | .obj .lst _, t, b, e => by cases t <;> cases e <;> (show kitB "list" _ = _; decide +kernel)
  | .obj (.dct _ _) _, t, b, e => by cases t <;> cases e
  | .obj (.ins _ _) _, t, b, e => by cases t <;> cases e
  | .ref _, t, b, e => by cases t <;> cases e
  | .scr _, t, b, e => by cases t <;> cases e <;> (show kitB "list" _ = _; decide +kernel)
theorem RT.ty {φ : List Addr} {Z : Addr → Prop} {st : ST} {σ : St} {H : Hp} (r : Rel K φ Z st σ H) {t : Tn} {b : Bool} : ∀ {w : W} {v : V}, isTn w t = some b → RT K φ (AV Z st.env σ) H w v → TyX K H v (.type (tyW w))
  | .non, v, _, h => by rw [h.non]; exact .base .non
  | .bl b, v, _, h => by rw [h.bl]; exact .base (.bl b)
  | .int i, v, _, h => by rw [h.int]; exact .base (.int i)
  | .str s, v, _, h => by rw [h.str.1]; exact .base (.str s)
  | .tup ws, v, _, h => by
    obtain ⟨a, vs, rfl, t, _⟩ := h.tup
    rcases t.1 with t | ⟨o, its, n, h1, h2, _⟩
    · exact .base (.tup t)
    · exact .kTuple h1 h2
  | .obj .lst ws, v, _, h => by
    obtain ⟨a, vs, rfl, t, _⟩ := h.lst
    exact .base (.lst t)
  | .obj (.dct _ _) _, v, e, h => by cases t <;> cases e
  | .obj (.ins _ _) _, v, e, h => by cases t <;> cases e
  | .ref n, v, e, h => by cases t <;> cases e
  | .scr ns, v, _, h => by
    obtain ⟨a, rfl, t⟩ := h.scr
    rcases t with ⟨o, u, h1, _, _, rfl⟩ | ⟨o, its, n, h1, h2, _⟩
    · exact .base (.frz h1)
    · exact .kList h1 h2
theorem imp_isT {t : Tn} {oa : ST → R OV} : ∀ σ H Q, tI K ce Wx (fun st => un1 (fun v => vB (isTn v t)) (oa st)) σ H Q → tCB (rIsi K) (tCons (tO K ce Wx oa) (tCons (tC (.ty (tnS t))) tNil)) σ H Q := by
  rintro σ H Q ⟨φ, Z, st, rel, o⟩
  unfold un1 at o
  refine ⟨φ, Z, st, rel, o.bind fun x st1 φ1 H1 e1 s1 o1 rel1 v1 ov1 => ?_⟩
  cases d1 : derefV x st1 with
  | none => simp only [d1] at o1; exact o1.elim
  | some w =>
    simp only [d1, Option.bind_some] at o1
    cases e : isTn w t with
    | none => rw [e] at o1; exact o1.elim
    | some b =>
      rw [e] at o1
      exact ⟨v1, .ty (tnS t), _, _, b, rfl, .ty _, RT.ty rel1 e (ov1.topV rel1 d1), kit_ty (kit_tn w t b e), o1.ok _ ⟨rel1, rep_bl.mpr rfl⟩⟩
/-! ### built-in functions -/
def rUc (K : PySem.W.Frag) (f : Bf) : List V → Hp → VK → Prop := fun vs H Q => ∃ φ Z st σ ws r B, Dm B H ∧ Rel K φ Z st σ H ∧ RTs K φ (AV Z st.env σ) H ws vs ∧ blt1 f ws = some r ∧ ∀ H' v, Step φ st σ H φ st H' → RRep K B φ Z st σ H' r v → Q v H'
theorem imp_blt {f : Bf} {a : IA} : ∀ σ H Q, tI K ce Wx (evB C (.blt f a)).v σ H Q → tCB (rUc K f) (tOs K ce Wx (evO C a)) σ H Q := by
  rintro σ H Q ⟨φ, Z, st, rel, o⟩
  simp only [evB, EB.of] at o
  refine ⟨φ, Z, st, rel, o.bind fun os st1 φ1 H1 e1 s1 o1 rel1 vs rs => ?_⟩
  cases d : derefs st1 os with
  | none => simp only [d, Option.bind_none] at o1; exact o1.elim
  | some ws =>
    simp only [d, Option.bind_some] at o1
    cases ef : blt1 f ws with
    | none => simp only [ef] at o1; exact o1.elim
    | some r =>
      simp only [ef] at o1
      exact ⟨φ1, Z, st1, σ, ws, r, H, s1.ext.dom, rel1, rs.top rel1 d, ef, fun H' v s rr => o1 φ1 H' s v rr⟩
theorem rts1 {φ A H} {w : W} {vs : List V} (h : RTs K φ A H [w] vs) : ∃ v, vs = [v] ∧ RT K φ A H w v := by
  obtain ⟨v, r, rfl, h1, h2⟩ := h
  have : r = [] := h2
  subst this
  exact ⟨v, rfl, h1⟩
end
section
variable {X : Cx}
theorem bu_len : CallR X (.builtin "len") (rUc X.K .len) := by
  intro pins s σ H vs us Q I r h
  obtain ⟨φ, Z, st, σ', ws, rv, B, dm, rel, h1, e, q⟩ := h
  match ws, e with
  | [.tup xs], e =>
    cases e
    obtain ⟨v, rfl, h2⟩ := rts1 h1
    obtain ⟨a, xs', rfl, t, rr⟩ := h2.tup
    refine call_len_seq pins s σ H _ us Q I r ⟨a, xs', rfl, .inr t.sq, ?_⟩
    rw [rr.length]
    exact q H _ .refl ⟨rel, rep_int.mpr rfl⟩
  | [.obj .lst xs], e =>
    cases e
    obtain ⟨v, rfl, h2⟩ := rts1 h1
    obtain ⟨a, xs', rfl, t, _, rr⟩ := h2.lst
    refine call_len_seq pins s σ H _ us Q I r ⟨a, xs', rfl, .inl (.of t), ?_⟩
    rw [rr.length]
    exact q H _ .refl ⟨rel, rep_int.mpr rfl⟩
  | [.scr ns], e =>
    cases e
    obtain ⟨v, rfl, h2⟩ := rts1 h1
    obtain ⟨a, rfl, t⟩ := h2.scr
    refine call_len_seq pins s σ H _ us Q I r ⟨a, _, rfl, .inl t.sq, ?_⟩
    rw [List.length_map]
    exact q H _ .refl ⟨rel, rep_int.mpr rfl⟩
theorem bu_int : CallR X (.type "int") (rUc X.K .int) := by
  intro pins s σ H vs us Q I r h
  obtain ⟨φ, Z, st, σ', ws, rv, B, dm, rel, h1, e, q⟩ := h
  match ws, e with
  | [.int i], e =>
    cases e
    obtain ⟨v, rfl, h2⟩ := rts1 h1
    refine call_int1 pins s σ H _ us Q I r (.inl ⟨i, by rw [h2.int], q H _ .refl ⟨rel, rep_int.mpr rfl⟩⟩)
theorem bu_tuple : CallR X (.type "tuple") (rUc X.K .tuple) := by
  intro pins s σ H vs us Q I r h
  obtain ⟨φ, Z, st, σ', ws, rv, B, dm, rel, h1, e, q⟩ := h
  match ws, e with
  | [.tup xs], e =>
    cases e
    obtain ⟨v, rfl, h2⟩ := rts1 h1
    obtain ⟨a, xs', rfl, t, rr⟩ := h2.tup
    exact call_tuple_of pins s σ H _ us Q I r ⟨a, xs', rfl, .inr ⟨t.sq, q H _ .refl ⟨rel, rep_tup.mpr ⟨a, xs', rfl, t, rr⟩⟩⟩⟩
  | [.obj .lst xs], e =>
    cases e
    obtain ⟨v, rfl, h2⟩ := rts1 h1
    obtain ⟨a, xs', rfl, t, z, rr⟩ := h2.lst
    exact call_tuple_of pins s σ H _ us Q I r ⟨a, xs', rfl, .inl ⟨.of t, fun p hp => q _ _ (Step.upd hp) (RRep.newT rel hp rr z)⟩⟩
theorem bu_list : CallR X (.type "list") (rUc X.K .list) := by
  intro pins s σ H vs us Q I r h
  obtain ⟨φ, Z, st, σ', ws, rv, B, dm, rel, h1, e, q⟩ := h
  match ws, e with
  | [.tup xs], e =>
    cases e
    obtain ⟨v, rfl, h2⟩ := rts1 h1
    obtain ⟨a, xs', rfl, t, rr⟩ := h2.tup
    exact call_list_of pins s σ H _ us Q I r ⟨a, xs', rfl, .inr t.sq, fun p hp => q _ _ (Step.upd hp) (RRep.new dm rel hp rr t.2)⟩
  | [.obj .lst xs], e =>
    cases e
    obtain ⟨v, rfl, h2⟩ := rts1 h1
    obtain ⟨a, xs', rfl, t, z, rr⟩ := h2.lst
    exact call_list_of pins s σ H _ us Q I r ⟨a, xs', rfl, .inl (.of t), fun p hp => q _ _ (Step.upd hp) (RRep.new dm rel hp rr z)⟩
theorem bu_sorted : CallR X (.builtin "sorted") (rUc X.K .sorted) := by
  intro pins s σ H vs us Q I r h
  obtain ⟨φ, Z, st, σ', ws, rv, B, dm, rel, h1, e, q⟩ := h
  match ws, e with
  | [x], e =>
    simp only [blt1] at e
    cases ei : items x with
    | none => rw [ei] at e; cases e
    | some xs =>
      rw [ei] at e
      simp only [Option.bind_some] at e
      cases es : strsW xs with
      | none => rw [es] at e; cases e
      | some ys =>
        rw [es] at e
        cases e
        obtain ⟨v, rfl, h2⟩ := rts1 h1
        obtain ⟨a, us', rfl, sq, hz, rr⟩ := h2.items ei
        obtain ⟨rfl, ok⟩ := rr.strs (strsW_eq es)
        refine cr_sortW pins s σ H _ us Q I r ⟨a, ys, rfl, sq, fun zs p hp hs h0 hl => ?_⟩
        obtain rfl := srt_uniq hp (sorted_pw hs)
        exact q _ _ (Step.upd h0) (RRep.new dm rel h0 (reps_strs fun z hz => ok z (hp.mem_iff.mp hz)) (by rw [List.length_map, hp.length_eq]; exact hl))
end
end LL

set_option Elab.async false
set_option linter.all false
set_option maxRecDepth 100000
set_option maxHeartbeats 2000000
/-! LLg (v2): a slot's object is written; an object of the store is written; a new one joins the store. -/
namespace LL
open PySem L2
variable [Cs]

section
variable {K : PySem.W.Frag} {ce : Nat → Option Addr} {Wx : WX} {C : CT}
theorem ObjAt.put {φ A H} {so : SO} {a p : Addr} {o u} (h : ObjAt K φ A H so a) (h0 : H p = some u) (hw : Wr u) (hp : A p ∨ p ∈ φ) (ne : a ≠ p) : ObjAt K φ A (L2.upd H p o) so a := by
  obtain ⟨vs, h1, h3⟩ := h
  exact ⟨vs, h1.put h0 hw ne, h3.put h0 hw hp⟩
theorem SlotOk.put {φ A H} {sl : Sl} {v : Option V} {p : Addr} {o u} (h : SlotOk K φ A H sl v) (h0 : H p = some u) (hw : Wr u) (hp : A p ∨ p ∈ φ) (ne : ∀ k ws, sl = .own k ws → v ≠ some (.ref p)) : SlotOk K φ A (L2.upd H p o) sl v := by
  cases sl with
  | val w =>
    obtain ⟨u, e, q⟩ := h
    exact ⟨u, e, q.put h0 hw hp⟩
  | own k ws =>
    obtain ⟨a, vs, e, n, h1, r⟩ := h
    have : a ≠ p := fun q => ne k ws rfl (by rw [e, q])
    exact ⟨a, vs, e, n, h1.put h0 hw this, r.put h0 hw hp⟩
/-- the object of slot i is written -/
theorem Rel.mut {φ Z st} {σ : St} {H} {i : Nat} {k k' : OK} {ws ws' : List W} {a : Addr} {vs vs' : List V} {o : HO} (r : Rel K φ Z st σ H) (e : st.env[i]? = some (some (.own k ws))) (es : σ[i]? = some (some (.ref a))) (h0 : At H a k vs)
    (rr : Reps K φ (AV Z st.env σ) H ws' vs') (hi' : IsO (L2.upd H a o) a k' vs' o) (hz : vs'.length ≤ sizeLine) :
    Rel K φ Z { st with env := st.env.set i (some (.own k' ws')) } σ (L2.upd H a o) ∧ Step φ st σ H φ { st with env := st.env.set i (some (.own k' ws')) } (L2.upd H a o) := by
  obtain ⟨u, h0, hw⟩ := h0.wr
  have hi : i < st.env.length := (List.getElem?_eq_some_iff.mp e).1
  have nf : a ∉ φ := by
    obtain ⟨v, e1, a', xs, e2, n, _⟩ := r.env i _ e
    rw [es] at e1; cases e1; cases e2
    exact n
  have oe1 : ∀ b, OE (st.env.set i (some (.own k' ws'))) σ b → OE st.env σ b := fun b ⟨j, kk, us, e2, e3⟩ => by
    by_cases hj : j = i
    · subst hj
      rw [es] at e3; cases e3
      exact ⟨j, k, ws, e, es⟩
    · rw [List.getElem?_set_ne (Ne.symm hj)] at e2
      exact ⟨j, kk, us, e2, e3⟩
  have oe2 : ∀ b, OE st.env σ b → OE (st.env.set i (some (.own k' ws'))) σ b := fun b ⟨j, kk, us, e2, e3⟩ => by
    by_cases hj : j = i
    · subst hj
      exact ⟨j, k', ws', List.getElem?_set_self hi, e3⟩
    · exact ⟨j, kk, us, by rw [List.getElem?_set_ne (Ne.symm hj)]; exact e2, e3⟩
  have av : ∀ b, AV Z (st.env.set i (some (.own k' ws'))) σ b → AV Z st.env σ b := fun b z => z.elim .inl fun q => .inr (oe1 b q)
  have ina : AV Z st.env σ a := .inr ⟨i, k, ws, e, es⟩
  refine ⟨⟨⟨r.sto.len, r.sto.nd, fun b m z => r.sto.av b m (av b z), fun n b so e1 e2 => ?_⟩, by rw [List.length_set]; exact r.len, fun j s e2 => ?_, fun j m k1 k2 us us' b e2 e3 e4 e5 => ?_, fun b z => r.hid b (oe1 b z), fun b z => ?_⟩,
    ⟨Ext.put h0 hw (.inr ⟨i, k, ws, e, es⟩), oe1⟩⟩
  · have q := (r.sto.obj n b so e1 e2).put (o := o) h0 hw (.inl ina) fun z => nf (by rw [← z]; exact List.mem_of_getElem? e1)
    obtain ⟨xs, q1, q3⟩ := q
    exact ⟨xs, q1, q3.anti av⟩
  · by_cases hj : j = i
    · subst hj
      rw [List.getElem?_set_self hi] at e2
      cases e2
      exact ⟨_, es, a, vs', rfl, nf, ⟨o, upd_same, hi', hz⟩, (rr.put h0 hw (.inl ina)).anti av⟩
    · rw [List.getElem?_set_ne (Ne.symm hj)] at e2
      obtain ⟨v, e3, q⟩ := r.env j s e2
      refine ⟨v, e3, (q.put h0 hw (.inl ina) fun kk us z1 z2 => ?_).anti av⟩
      subst z1
      rw [z2] at e3
      exact hj (r.dis j i kk k us ws a e2 e e3 es)
  · have f : ∀ {j : Nat} {kk : OK} {us : List W}, (st.env.set i (some (.own k' ws')))[j]? = some (some (Sl.own kk us)) → ∃ kk us0, st.env[j]? = some (some (Sl.own kk us0)) := fun {j kk us} q => by
      by_cases hj : j = i
      · subst hj; exact ⟨k, ws, e⟩
      · rw [List.getElem?_set_ne (Ne.symm hj)] at q; exact ⟨kk, us, q⟩
    obtain ⟨v1, u1, q1⟩ := f e2
    obtain ⟨v2, u2, q2⟩ := f e3
    exact r.dis j m v1 v2 u1 u2 b q1 q2 e4 e5
  · obtain ⟨o', q⟩ := r.zd b z
    by_cases hb : b = a
    · exact ⟨_, by rw [hb]; exact upd_same⟩
    · exact ⟨o', by rw [upd_ne hb]; exact q⟩
/-- an object of the store is written -/
theorem Rel.mutS {φ Z st} {σ : St} {H} {n : Nat} {so : SO} {a : Addr} {k' : OK} {ws' : List W} {vs' : List V} {o : HO} (r : Rel K φ Z st σ H) (e : φ[n]? = some a) (es : st.sto[n]? = some so)
    (rr : Reps K φ (AV Z st.env σ) H ws' vs') (hi' : IsO (L2.upd H a o) a k' vs' o) (hz : vs'.length ≤ sizeLine) :
    Rel K φ Z { st with sto := st.sto.set n ⟨k', ws'⟩ } σ (L2.upd H a o) ∧ Step φ st σ H φ { st with sto := st.sto.set n ⟨k', ws'⟩ } (L2.upd H a o) := by
  obtain ⟨u, h0, hw⟩ : ∃ u, H a = some u ∧ Wr u := by
    obtain ⟨xs, q1, _⟩ := r.sto.obj n a so e es
    exact q1.wr
  have ina : a ∈ φ := List.mem_of_getElem? e
  refine ⟨⟨⟨by rw [List.length_set]; exact r.sto.len, r.sto.nd, r.sto.av, fun m b so' e1 e2 => ?_⟩, r.len, fun j s e2 => ?_, r.dis, r.hid, fun b z => ?_⟩,
    ⟨Ext.put h0 hw (.inl ina), fun _ z => z⟩⟩
  · have hn : n < st.sto.length := (List.getElem?_eq_some_iff.mp es).1
    by_cases hm : m = n
    · subst hm
      rw [e] at e1; cases e1
      rw [List.getElem?_set_self hn] at e2
      cases e2
      exact ⟨vs', ⟨o, upd_same, hi', hz⟩, rr.put h0 hw (.inr ina)⟩
    · rw [List.getElem?_set_ne (Ne.symm hm)] at e2
      refine (r.sto.obj m b so' e1 e2).put h0 hw (.inr ina) fun z => hm ?_
      subst z
      obtain ⟨l1, g1⟩ := List.getElem?_eq_some_iff.mp e1
      obtain ⟨l2, g2⟩ := List.getElem?_eq_some_iff.mp e
      exact (List.getElem_inj r.sto.nd).mp (g1.trans g2.symm)
  · obtain ⟨v, e3, q⟩ := r.env j s e2
    refine ⟨v, e3, q.put h0 hw (.inr ina) fun kk us z1 z2 => ?_⟩
    subst z1
    obtain ⟨b, ys, e4, n4, _⟩ := q
    rw [z2] at e4; cases e4
    exact n4 ina
  · obtain ⟨o', q⟩ := r.zd b z
    by_cases hb : b = a
    · exact ⟨_, by rw [hb]; exact upd_same⟩
    · exact ⟨o', by rw [upd_ne hb]; exact q⟩
/-- a new object joins the store -/
theorem Rel.join {φ Z st} {σ : St} {H} {k : OK} {ws : List W} {p : Addr} {vs : List V} (r : Rel K φ (fun a => Z a ∨ a = p) st σ H) (h1 : p ∉ φ) (h2 : ¬ AV Z st.env σ p) (h3 : At H p k vs) (h6 : Reps K φ (AV (fun a => Z a ∨ a = p) st.env σ) H ws vs) :
    Rel K (φ ++ [p]) Z { st with sto := st.sto ++ [⟨k, ws⟩] } σ H := by
  have rel1 := r.less (Z' := Z) fun a z => .inl z
  have av' : ∀ a, (AV Z st.env σ a ∨ a = p) → AV (fun a => Z a ∨ a = p) st.env σ a := fun a z => by
    rcases z with (z | z) | z
    · exact .inl (.inl z)
    · exact .inr z
    · exact .inl (.inr z)
  have up : ∀ {w : W} {v : V}, Rep K φ (AV (fun a => Z a ∨ a = p) st.env σ) H w v → Rep K (φ ++ [p]) (AV Z st.env σ) H w v := fun {w v} q => (q.anti av').grow
  have ups : ∀ {w : List W} {v : List V}, Reps K φ (AV (fun a => Z a ∨ a = p) st.env σ) H w v → Reps K (φ ++ [p]) (AV Z st.env σ) H w v := fun {w v} q => (q.anti av').grow
  refine ⟨⟨by rw [List.length_append, List.length_append, r.sto.len]; rfl, ?_, fun a m z => ?_, fun n a so e2 e3 => ?_⟩, r.len, fun j sl q => ?_, r.dis, fun a z q => r.hid a z (.inl q), fun a z => r.zd a (.inl z)⟩
  · rw [List.nodup_append]
    refine ⟨r.sto.nd, by simp, fun a m c n => ?_⟩
    have : c = p := by simpa using n
    rw [this]
    exact fun z => h1 (by rw [← z]; exact m)
  · rcases List.mem_append.mp m with m | m
    · exact rel1.sto.av a m z
    · have e : a = p := by simpa using m
      rw [e] at z
      exact h2 z
  · by_cases hn : n < φ.length
    · rw [List.getElem?_append_left hn] at e2
      rw [List.getElem?_append_left (by rw [← r.sto.len]; exact hn)] at e3
      obtain ⟨xs, q1, q3⟩ := r.sto.obj n a so e2 e3
      exact ⟨xs, q1, ups q3⟩
    · rw [List.getElem?_append_right (by omega)] at e2
      rw [List.getElem?_append_right (by rw [← r.sto.len]; omega)] at e3
      rw [← r.sto.len] at e3
      cases hk : n - φ.length with
      | zero =>
        rw [hk] at e2 e3
        simp at e2 e3
        subst e2 e3
        exact ⟨vs, h3, ups h6⟩
      | succ m => rw [hk] at e2; simp at e2
  · obtain ⟨v, e2, q⟩ := r.env j sl q
    refine ⟨v, e2, ?_⟩
    cases sl with
    | val w =>
      obtain ⟨u, e3, r⟩ := q
      exact ⟨u, e3, up r⟩
    | own kk us =>
      obtain ⟨a, xs, e3, n, h, r⟩ := q
      subst e3
      refine ⟨a, xs, rfl, fun m => ?_, h, ups r⟩
      rcases List.mem_append.mp m with m | m
      · exact n m
      · have e : a = p := by simpa using m
        subst e
        exact h2 (.inr ⟨j, kk, us, by assumption, e2⟩)
theorem Step.join {φ st st' : _} {φ' : List Addr} {σ : St} {H H' : Hp} {p : Addr} {so : SO} (s : Step φ st σ H φ' st' H') (h0 : H p = none) : Step φ st σ H (φ' ++ [p]) { st' with sto := st'.sto ++ [so] } H' := by
  refine ⟨⟨s.ext.pre.trans ⟨[p], rfl⟩, fun a m => ?_, s.ext.dom, s.ext.tup, s.ext.mrk, s.ext.frm⟩, s.own⟩
  rcases List.mem_append.mp m with m | m
  · exact s.ext.new a m
  · have e : a = p := by simpa using m
    exact .inr (by rw [e]; exact h0)
theorem imp_nref {e : IE} : ∀ σ H Q, tI K ce Wx (evB C (.nref e)).v σ H Q → tI K ce Wx (evB C e).v σ H Q := by
  rintro σ H Q ⟨φ, Z, st, rel, o⟩
  simp only [evB, EB.of] at o
  refine ⟨φ, Z, st, rel, ?_⟩
  cases e1 : (evB C e).v st with
  | bad => rw [e1] at o; exact o
  | exn c fs st1 => rw [e1] at o; exact o
  | ok r st1 =>
    rw [e1] at o
    intro φ1 H1 s1 v rr
    cases r with
    | v w => exact o.elim
    | f k ws =>
      obtain ⟨p, vs, rfl, h0, h1, h2, h3, h5, h6⟩ := rr
      have o : ∀ φ' H', Step φ st σ H φ' { st1 with sto := st1.sto ++ [⟨k, ws⟩] } H' → ∀ v, RRep K H φ' Z { st1 with sto := st1.sto ++ [⟨k, ws⟩] } σ H' (.v (.ref st1.sto.length)) v → Q v H' := o
      refine o (φ1 ++ [p]) H1 (s1.join h0) _ ⟨h5.join h1 h2 h3 h6, rep_ref.mpr ⟨p, ?_, rfl⟩⟩
      rw [← h5.sto.len]
      simp
theorem slot_own {φ Z st} {σ : St} {H} {i : Nat} {k : OK} {ws : List W} (r : Rel K φ Z st σ H) (e : st.env[i]? = some (some (.own k ws))) : ∃ a vs, σ[i]? = some (some (.ref a)) ∧ a ∉ φ ∧ At H a k vs ∧ Reps K φ (AV Z st.env σ) H ws vs := by
  obtain ⟨v, e1, a, vs, e2, n, h, rr⟩ := r.env i _ e
  subst e2
  exact ⟨a, vs, e1, n, h, rr⟩
theorem imp_pop {i : Nat} {e : IE} : ∀ σ H Q, tI K ce Wx (evB C (.pop i e)).v σ H Q → tBM K "list" rPopAt (tVar i) (tCons (tI K ce Wx (evB C e).v) tNil) σ H Q := by
  rintro σ H Q ⟨φ, Z, st, rel, o⟩
  simp only [evB, EB.of] at o
  split at o
  · rename_i ws0 e0
    obtain ⟨a, vs0, es, n0, h0, r0⟩ := slot_own rel e0
    refine ⟨_, es, .inl ⟨rfl, _, .of h0.lst.1⟩, φ, Z, st, rel, o.bind fun k st1 φ1 H1 e1 s1 o1 v1 rr => ?_⟩
    obtain ⟨rel1, rep1⟩ := rr.val
    unfold popR at o1
    split at o1
    · rename_i j ws ek ee
      rw [ek] at rep1
      obtain ⟨a', vs, es', n1, h1A, r1⟩ := slot_own rel1 ee
      obtain ⟨h1, z1⟩ := h1A.lst
      rw [es] at es'; cases es'
      split at o1
      · rename_i n en
        split at o1
        · rename_i w ew
          obtain ⟨v, ev, rv⟩ := r1.get ew
          have en' : ixN vs.length j = some n := by rw [r1.length]; exact en
          obtain ⟨q1, q2, q3, q4⟩ := ixN_seq en'
          have hs : (vs.length : Int) < 2 ^ 63 := by
            have h : vs.length < 2 ^ 63 := Nat.lt_of_le_of_lt z1 line63
            omega
          refine ⟨a, vs, j, n, v, rfl, by rw [rep_int.mp rep1], h1, by omega, by omega, q1, ev, ?_⟩
          obtain ⟨rel2, s2⟩ := rel1.mut ee es h1A (r1.erase n) (o := .lst (vs.eraseIdx n)) (k' := .lst) rfl (Nat.le_trans (len_erase vs n) z1)
          exact o1 φ1 _ s2 v ⟨rel2, s2.rep rv⟩
        · exact o1.elim
      · exact o1.elim
    · exact o1.elim
  · exact o.elim
end
end LL

set_option Elab.async false
set_option linter.all false
set_option maxRecDepth 100000
set_option maxHeartbeats 2000000
/-! LLh: what loops walk, and comprehensions. -/
namespace LL
open PySem L2
variable [Cs]

/-- what comes at a turn: the item as it lay when the walk began, or a new tuple of such -/
def Yld (K : PySem.W.Frag) (φ : List Addr) (A : Addr → Prop) (H0 H' H'' : Hp) (w : W) (x : V) : Prop :=
  (H'' = H' ∧ Rep K φ A H0 w x) ∨ ∃ p ws us, w = .tup ws ∧ x = .ref p ∧ H' p = none ∧ H'' = upd H' p (.tup us) ∧ Reps K φ A H0 ws us ∧ us.length ≤ sizeLine
/-- a walk over plain items -/
def ItW (K : PySem.W.Frag) (φ : List Addr) (A : Addr → Prop) (H0 : Hp) (xs : List W) (J : It) : Prop :=
  ∃ G Y, Walk J xs.length G Y ∧ xs.length ≤ sizeLine ∧ (∀ φ' B H', Ext φ B H0 φ' H' → (∀ a, B a → A a) → G H') ∧
    ∀ i H' x H'', i < xs.length → G H' → Y i H' x H'' → ∃ w, xs[i]? = some w ∧ Yld K φ A H0 H' H'' w x
section
variable (K : PySem.W.Frag) (ce : Nat → Option Addr) (Wx : WX)
def tSI (m : ST → R (List W)) : TI := fun σ H R' => ∃ φ Z st, Rel K φ Z st σ H ∧ Out K ce Wx (fun φ' Z' st' H' xs => Rel K φ' Z' st' σ H' → ∀ J, ItW K φ' (AV Z' st'.env σ) H' xs J → R' J H') φ Z st σ H (m st)
end
theorem PI.imp {X : Cx} {tg e : Expr} {t t' : TI} (h : PI X tg e t) (i : ∀ σ H R, t' σ H R → t σ H R) : PI X tg e t' := ⟨fun pins s σ H R I q => h.run pins s σ H R I (i σ H R q)⟩
/-- a list or a tuple, whichever comes -/
def iSeq (K : PySem.W.Frag) (tl : TE) : TI := fun σ H R => tl σ H fun x H1 => ∃ a, x = .ref a ∧ (((∃ xs, SqL K H1 a xs) ∧ R (Itl K a) H1) ∨ ((∃ xs, SqT K H1 a xs) ∧ R (Itt K a) H1))
theorem pi_seq {X : Cx} {tg l : Expr} {tl : TE} (hl : PE X l tl) : PI X tg l (iSeq X.K tl) := by
  constructor
  intro pins s σ H R I h
  refine thn (hl.run pins s σ H _ I h) ?_
  rintro v s1 ⟨x, H1, I1, r1, a, rfl, q⟩
  cases r1
  have new : ∀ {o : Obj}, Inv X pins σ H1 { s1 with heap := s1.heap.push o } := fun {o} => I1.kept (t' := s1.toks) fun b u e => Heap.get?_push_of_some _ e
  have fp : ∀ b, b ∈ [s1.heap.objs.size] → FpOk X pins H1 b := fun b hb => by
    obtain rfl : b = s1.heap.objs.size := by simpa using hb
    exact I1.fpOk (Nat.le_refl _) (I1.hok.fresh (Nat.le_refl _))
  rcases q with ⟨⟨xs, hq⟩, q⟩ | ⟨⟨xs, hq⟩, q⟩
  · obtain ⟨its, _, pl, _⟩ := I1.list hq
    exact wpAny_pyIter_list pl.isList ⟨_, [s1.heap.objs.size], _, _, H1, rfl, new, turn_list a _, ⟨_, Heap.get?_push_size _ rfl, rfl, rfl⟩, fp, q⟩
  · obtain ⟨its, _, pt, _⟩ := I1.tuple hq
    exact PySem.wpAny_pyIter_tuple (show s1.heap.IsTuple a its.toArray from pt) ⟨_, [s1.heap.objs.size], _, _, H1, rfl, new, turn_tuple a _, ⟨_, Heap.get?_push_size _ rfl, rfl, rfl⟩, fp, q⟩

section
variable {K : PySem.W.Frag} {ce : Nat → Option Addr} {Wx : WX} {C : CT}
theorem itw_list {φ A H} {a : Addr} {ws : List W} {vs : List V} (t : FAt φ A H a .lst vs) (r : Reps K φ A H ws vs) : ItW K φ A H ws (Itl K a) := by
  refine ⟨_, _, by rw [← r.length]; exact walk_list (K := K) (a := a) (xs := vs), by rw [← r.length]; exact t.at_.lst.2, fun φ' B H' e hb => SqL.of (e.fat hb t).at_.lst.1, ?_⟩
  rintro i H' x H'' hi _ ⟨rfl, hx⟩
  obtain ⟨w, h1, h2⟩ := r.get' hx
  exact ⟨w, h1, .inl ⟨rfl, h2⟩⟩
theorem itw_tup {φ A H} {a : Addr} {ws : List W} {vs : List V} (t : TAt K H a vs) (r : Reps K φ A H ws vs) : ItW K φ A H ws (Itt K a) := by
  refine ⟨_, _, by rw [← r.length]; exact walk_tup (K := K) (a := a) (xs := vs), by rw [← r.length]; exact t.2, fun φ' B H' e hb => (e.tat t).sq, ?_⟩
  rintro i H' x H'' hi _ ⟨rfl, hx⟩
  obtain ⟨w, h1, h2⟩ := r.get' hx
  exact ⟨w, h1, .inl ⟨rfl, h2⟩⟩
theorem itw_rng {φ A H} {j : Int} (hz : j.toNat ≤ sizeLine) : ItW K φ A H (rngW j) (Itr 0 j.toNat) := by
  have hl : (rngW j).length = j.toNat := by unfold rngW; simp
  refine ⟨_, _, by rw [hl]; exact walk_range (lo := 0) (n := j.toNat), by rw [hl]; exact hz, fun _ _ _ _ _ => trivial, ?_⟩
  rintro i H' x H'' hi _ ⟨rfl, hx⟩
  rw [hl] at hi
  refine ⟨.int (i : Nat), ?_, .inl ⟨rfl, ?_⟩⟩
  · unfold rngW
    rw [List.getElem?_map, List.getElem?_range hi]; rfl
  · rw [hx]
    refine rep_int.mpr ?_
    simp
theorem enumW_get : ∀ (ws : List W) (n i : Nat), (enumW n ws)[i]? = (ws[i]?).map fun x => .tup [.int ((n + i : Nat) : Int), x]
  | [], n, i => by simp [enumW]
  | x :: ws, n, 0 => by simp [enumW]
  | x :: ws, n, i + 1 => by
    have ih := enumW_get ws (n + 1) i
    rw [enumW, List.getElem?_cons_succ, List.getElem?_cons_succ, ih]
    congr 1
    funext y
    rw [show n + 1 + i = n + (i + 1) by omega]
theorem enumW_len : ∀ (ws : List W) (n : Nat), (enumW n ws).length = ws.length
  | [], _ => rfl
  | _ :: ws, n => by rw [enumW, List.length_cons, List.length_cons, enumW_len ws]
/-- a walk that pairs each item with its number -/
theorem itw_en {φ A H} {J : It} {ws : List W} {vs : List V} {G : Hp → Prop} (hz : vs.length ≤ sizeLine) (hG : ∀ φ' B H', Ext φ B H φ' H' → (∀ a, B a → A a) → G H') (r : Reps K φ A H ws vs)
    (wk : Walk J vs.length G fun i H v H' => ∃ T x, v = .ref T ∧ H T = none ∧ H' = upd H T (.tup [.int (i : Nat), x]) ∧ vs[i]? = some x) : ItW K φ A H (enumW 0 ws) J := by
  have hl : (enumW 0 ws).length = vs.length := by rw [enumW_len, r.length]
  refine ⟨_, _, by rw [hl]; exact wk, by rw [hl]; exact hz, hG, ?_⟩
  rintro i H' x H'' hi _ ⟨T, y, rfl, h0, rfl, hy⟩
  obtain ⟨w, h1, h2⟩ := r.get' hy
  refine ⟨.tup [.int (i : Nat), w], by rw [enumW_get, h1, Nat.zero_add]; rfl, .inr ⟨T, _, _, rfl, rfl, h0, rfl, .cons (rep_int.mpr rfl) (.cons h2 .nil), by show 2 ≤ sizeLine; decide⟩⟩
theorem imp_enm {e : IE} : ∀ σ H R, tSI K ce Wx (evI C (.enm e)) σ H R → iEn K (tCons (tI K ce Wx (evB C e).v) tNil) σ H R := by
  rintro σ H R ⟨φ, Z, st, rel, o⟩
  simp only [evI] at o
  refine ⟨φ, Z, st, rel, o.bind fun r st1 φ1 H1 e1 s1 o1 v1 rr => ?_⟩
  obtain ⟨rel1, rep1⟩ := rr.val
  cases ei : items r.w with
  | none => simp only [ei] at o1; exact o1.elim
  | some xs =>
    simp only [ei] at o1
    generalize r.w = w at ei rep1
    cases w with
    | tup ws =>
      cases ei
      obtain ⟨a, vs, rfl, t, r1⟩ := rep_tup.mp rep1
      refine ⟨a, rfl, .inr ⟨⟨vs, t.sq⟩, o1.ok rel1 _ (itw_en (G := fun H => SqT K H a vs) t.2 (fun φ' B H' e hb => (e.tat t).sq) r1 ⟨fun i H2 hi q => ⟨vs, vs[i], q, by simp [hi]⟩, fun H2 q => ⟨vs, q, rfl⟩, fun i H2 x H3 hi q y => ?_⟩)⟩⟩
      obtain ⟨T, z, h1, h2, h3, h4⟩ := y
      exact ⟨T, z, h1, h2, h3, h4 vs q⟩
    | obj k ws =>
      cases k <;> cases ei
      obtain ⟨a, vs, rfl, t, r1⟩ := rep_obj.mp rep1
      refine ⟨a, rfl, .inl ⟨⟨vs, .of t.at_.lst.1⟩, o1.ok rel1 _ (itw_en (G := fun H => SqL K H a vs) t.at_.lst.2 (fun φ' B H' e hb => SqL.of (e.fat hb t).at_.lst.1) r1 ⟨fun i H2 hi q => ⟨vs, vs[i], q, by simp [hi]⟩, fun H2 q => ⟨vs, q, Nat.le_refl _⟩, fun i H2 x H3 hi q y => ?_⟩)⟩⟩
      obtain ⟨T, z, h1, h2, h3, h4⟩ := y
      exact ⟨T, z, h1, h2, h3, h4 vs q⟩
    | _ => cases ei
theorem imp_seq {e : IE} : ∀ σ H R, tSI K ce Wx (evI C (.seq e)) σ H R → iSeq K (tI K ce Wx (evB C e).v) σ H R := by
  rintro σ H R ⟨φ, Z, st, rel, o⟩
  simp only [evI] at o
  refine ⟨φ, Z, st, rel, o.bind fun r st1 φ1 H1 e1 s1 o1 v1 rr => ?_⟩
  obtain ⟨rel1, rep1⟩ := rr.val
  cases ei : items r.w with
  | none => simp only [ei] at o1; exact o1.elim
  | some xs =>
    simp only [ei] at o1
    generalize r.w = w at ei rep1
    cases w with
    | tup ws =>
      cases ei
      obtain ⟨a, vs, rfl, t, r1⟩ := rep_tup.mp rep1
      exact ⟨a, rfl, .inr ⟨⟨vs, t.sq⟩, o1.ok rel1 _ (itw_tup t r1)⟩⟩
    | obj k ws =>
      cases k <;> cases ei
      obtain ⟨a, vs, rfl, t, r1⟩ := rep_obj.mp rep1
      exact ⟨a, rfl, .inl ⟨⟨vs, .of t.at_.lst.1⟩, o1.ok rel1 _ (itw_list t r1)⟩⟩
    | _ => cases ei
theorem imp_rng {e : IE} : ∀ σ H R, tSI K ce Wx (evI C (.rng e)) σ H R → iRng1 (tCons (tI K ce Wx (evB C e).v) tNil) σ H R := by
  rintro σ H R ⟨φ, Z, st, rel, o⟩
  simp only [evI] at o
  refine ⟨φ, Z, st, rel, o.bind fun r st1 φ1 H1 e1 s1 o1 v1 rr => ?_⟩
  obtain ⟨rel1, rep1⟩ := rr.val
  split at o1
  · rename_i j ej
    rw [ej] at rep1
    split at o1
    · rename_i hj
      simp only [rngOk, Bool.and_eq_true, decide_eq_true_eq] at hj
      exact ⟨j, by rw [rep_int.mp rep1], hj.1.1, hj.1.2, o1.ok rel1 _ (itw_rng (of_decide_eq_true hj.2))⟩
    · exact o1.elim
  · exact o1.elim
end

/-! ### frames changed by parts -/
section
variable {K : PySem.W.Frag} {ce : Nat → Option Addr} {Wx : WX} {C : CT}
theorem Rel.patch {φ Z} {e1 e2 : Env'} {sto : List SO} {σ1 σ2 : St} {H} (r : Rel K φ Z ⟨e1, sto⟩ σ1 H) (hl : e2.length = σ2.length)
    (h : ∀ (i : Nat) s, e2[i]? = some (some s) → (e1[i]? = some (some s) ∧ σ2[i]? = σ1[i]?) ∨ ∃ w v, s = .val w ∧ σ2[i]? = some (some v) ∧ Rep K φ (AV Z e1 σ1) H w v) : Rel K φ Z ⟨e2, sto⟩ σ2 H := by
  have oe : ∀ a, OE e2 σ2 a → OE e1 σ1 a := fun a ⟨i, kk, ws, q1, q2⟩ => by
    rcases h i _ q1 with ⟨h1, h2⟩ | ⟨w, v, h1, _⟩
    · exact ⟨i, kk, ws, h1, by rw [← h2]; exact q2⟩
    · cases h1
  have av : ∀ a, AV Z e2 σ2 a → AV Z e1 σ1 a := fun a z => z.elim .inl fun q => .inr (oe a q)
  refine ⟨r.sto.anti av, hl, fun i s q => ?_, fun i j k1 k2 ws ws' a q1 q2 q3 q4 => ?_, fun a z => r.hid a (oe a z), r.zd⟩
  · rcases h i s q with ⟨h1, h2⟩ | ⟨w, v, rfl, h2, h3⟩
    · obtain ⟨v, h3, h4⟩ := r.env i s h1
      exact ⟨v, by rw [h2]; exact h3, h4.anti av⟩
    · exact ⟨_, h2, v, rfl, h3.anti av⟩
  · rcases h i _ q1 with ⟨h1, h2⟩ | ⟨w, v, h1, _⟩
    · rcases h j _ q2 with ⟨h3, h4⟩ | ⟨w, v, h3, _⟩
      · exact r.dis i j k1 k2 ws ws' a h1 h3 (by rw [← h2]; exact q3) (by rw [← h4]; exact q4)
      · cases h3
    · cases h1
theorem OE.patch {K : PySem.W.Frag} {φ Z} {e1 e2 : Env'} {σ1 σ2 : St} {H}
    (h : ∀ (i : Nat) s, e2[i]? = some (some s) → (e1[i]? = some (some s) ∧ σ2[i]? = σ1[i]?) ∨ ∃ w v, s = .val w ∧ σ2[i]? = some (some v) ∧ Rep K φ (AV Z e1 σ1) H w v) : ∀ a, OE e2 σ2 a → OE e1 σ1 a := fun a ⟨i, kk, ws, q1, q2⟩ => by
  rcases h i _ q1 with ⟨h1, h2⟩ | ⟨w, v, h1, _⟩
  · exact ⟨i, kk, ws, h1, by rw [← h2]; exact q2⟩
  · cases h1
theorem wipeE_len : ∀ (vs : List Nat) (env : Env'), (wipeE vs env).length = env.length
  | [], _ => rfl
  | v :: vs, env => by unfold wipeE; rw [List.length_set, wipeE_len vs env]
theorem wipeE_get {env : Env'} {i : Nat} {s : Sl} : ∀ {vs : List Nat}, (wipeE vs env)[i]? = some (some s) → env[i]? = some (some s) ∧ i ∉ vs
  | [], h => ⟨h, by simp⟩
  | v :: vs, h => by
    unfold wipeE at h
    by_cases hi : v = i
    · subst hi
      by_cases hv : v < (wipeE vs env).length
      · rw [List.getElem?_set_self hv] at h; cases h
      · rw [List.getElem?_eq_none (by simpa using hv)] at h; cases h
    · rw [List.getElem?_set_ne hi] at h
      obtain ⟨h1, h2⟩ := wipeE_get h
      exact ⟨h1, by simp only [List.mem_cons, not_or]; exact ⟨fun e => hi e.symm, h2⟩⟩
theorem wipe_patch {K : PySem.W.Frag} {φ Z} {env : Env'} {σ : St} {H} {vs : List Nat} : ∀ (i : Nat) s, (wipeE vs env)[i]? = some (some s) → (env[i]? = some (some s) ∧ (wipe σ vs)[i]? = σ[i]?) ∨ ∃ w v, s = .val w ∧ (wipe σ vs)[i]? = some (some v) ∧ Rep K φ (AV Z env σ) H w v :=
  fun i s h => .inl ⟨(wipeE_get h).1, wipe_out (wipeE_get h).2⟩
theorem Rel.wipe {φ Z} {env : Env'} {sto} {σ : St} {H} (r : Rel K φ Z ⟨env, sto⟩ σ H) (vs : List Nat) : Rel K φ Z ⟨wipeE vs env, sto⟩ (L2.wipe σ vs) H :=
  r.patch (by rw [wipeE_len, wipe_length]; exact r.len) wipe_patch
theorem restE_len : ∀ (vs : List Nat) (e0 e1 : Env'), (restE vs e0 e1).length = e1.length
  | [], _, _ => rfl
  | v :: vs, e0, e1 => by unfold restE; rw [List.length_set, restE_len vs e0 e1]
theorem keepV_some {o : Option (Option Sl)} {s : Sl} (h : keepV o = some s) : ∃ w, s = .val w ∧ o = some (some (.val w)) := by
  unfold keepV at h
  split at h
  · cases h; exact ⟨_, rfl, rfl⟩
  · cases h
theorem restE_get {e0 e1 : Env'} {i : Nat} {s : Sl} : ∀ {vs : List Nat}, (restE vs e0 e1)[i]? = some (some s) → (i ∉ vs ∧ e1[i]? = some (some s)) ∨ (i ∈ vs ∧ ∃ w, s = .val w ∧ e0[i]? = some (some (.val w)))
  | [], h => .inl ⟨by simp, h⟩
  | v :: vs, h => by
    unfold restE at h
    by_cases hi : v = i
    · subst hi
      by_cases hv : v < (restE vs e0 e1).length
      · rw [List.getElem?_set_self hv] at h
        obtain ⟨w, h1, h2⟩ := keepV_some (Option.some.inj h)
        exact .inr ⟨by simp, w, h1, h2⟩
      · rw [List.getElem?_eq_none (by simpa using hv)] at h; cases h
    · rw [List.getElem?_set_ne hi] at h
      rcases restE_get h with ⟨h1, h2⟩ | ⟨h1, h2⟩
      · exact .inl ⟨by simp only [List.mem_cons, not_or]; exact ⟨fun e => hi e.symm, h1⟩, h2⟩
      · exact .inr ⟨List.mem_cons_of_mem _ h1, h2⟩
/-- a target's reading -/
def gOfs : List Nat → TGs
  | [] => gNil
  | i :: l => gCons (gName i) (gOfs l)
def gOf (K : PySem.W.Frag) : TgI → TG
  | .nm i => gName i
  | .tp l => gTup K l.length (gOfs l)
theorem set_patch {K : PySem.W.Frag} {φ Z} {env : Env'} {σ : St} {H} {i : Nat} {w : W} {v : V} (hl : env.length = σ.length) (h : Rep K φ (AV Z env σ) H w v) :
    ∀ (j : Nat) s, (env.set i (some (.val w)))[j]? = some (some s) → (env[j]? = some (some s) ∧ (σ.set i (some v))[j]? = σ[j]?) ∨ ∃ w v', s = .val w ∧ (σ.set i (some v))[j]? = some (some v') ∧ Rep K φ (AV Z env σ) H w v' := fun j s q => by
  by_cases hj : i = j
  · subst hj
    by_cases hi : i < env.length
    · rw [List.getElem?_set_self hi] at q
      cases q
      exact .inr ⟨w, v, rfl, List.getElem?_set_self (by rw [← hl]; exact hi), h⟩
    · rw [List.getElem?_eq_none (by simpa using hi)] at q; cases q
  · rw [List.getElem?_set_ne hj] at q
    exact .inl ⟨q, List.getElem?_set_ne hj⟩
theorem Rel.setv {φ Z} {env : Env'} {sto} {σ : St} {H} {i : Nat} {w : W} {v : V} (r : Rel K φ Z ⟨env, sto⟩ σ H) (h : Rep K φ (AV Z env σ) H w v) :
    Rel K φ Z ⟨env.set i (some (.val w)), sto⟩ (σ.set i (some v)) H := r.patch (by rw [List.length_set, List.length_set]; exact r.len) (set_patch r.len h)
theorem wipe_set {σ : St} {i : Nat} {o : Option V} {vs : List Nat} (h : i ∈ vs) : wipe (σ.set i o) vs = wipe σ vs := by
  induction vs with
  | nil => cases h
  | cons v vs ih =>
    unfold wipe
    by_cases hv : i ∈ vs
    · rw [ih hv]
    · have e : i = v := by simpa [hv] using h
      subst e
      have gen : ∀ us : List Nat, i ∉ us → wipe (σ.set i o) us = (wipe σ us).set i o := by
        intro us
        induction us with
        | nil => intro _; rfl
        | cons u us ih2 =>
          intro hu
          simp only [List.mem_cons, not_or] at hu
          unfold wipe
          rw [ih2 hu.2, List.set_comm _ _ hu.1]
      rw [gen vs hv, List.set_set]
theorem wipe_out' {σ σ' : St} {vs : List Nat} (h : wipe σ vs = wipe σ' vs) {j : Nat} (hj : j ∉ vs) : σ[j]? = σ'[j]? := by
  rw [← wipe_out (σ := σ) hj, ← wipe_out (σ := σ') hj, h]
theorem tgs_ok {φ Z} {sto} {H} {vars : List Nat} {Q : St → Hp → Prop} : ∀ {l : List Nat} {ws : List W} {vs : List V} {env env' : Env'} {σ : St}, (∀ i ∈ l, i ∈ vars) → Rel K φ Z ⟨env, sto⟩ σ H → Reps K φ (AV Z env σ) H ws vs → setTs l ws env = some env' →
    (∀ σ2, Rel K φ Z ⟨env', sto⟩ σ2 H → (∀ a, OE env' σ2 a → OE env σ a) → wipe σ2 vars = wipe σ vars → Q σ2 H) → vs.length = l.length ∧ gOfs l vs σ H Q
  | [], [], vs, env, env', σ, _, r, h, e, q => by
    cases e
    unfold Reps at h
    subst h
    exact ⟨rfl, rfl, q σ r (fun _ z => z) rfl⟩
  | [], _ :: _, _, _, _, _, _, _, _, e, _ => by cases e
  | _ :: _, [], _, _, _, _, _, _, _, e, _ => by cases e
  | i :: l, w :: ws, vs, env, env', σ, hv, r, h, e, q => by
    unfold Reps at h
    obtain ⟨v, vs', rfl, h1, h2⟩ := h
    unfold setTs at e
    have r1 := r.setv (i := i) h1
    have oe := OE.patch (set_patch (i := i) r.len h1)
    have h2' : Reps K φ (AV Z (env.set i (some (.val w))) (σ.set i (some v))) H ws vs' := h2.anti fun y z => z.elim .inl fun o => .inr (oe y o)
    obtain ⟨g1, g2⟩ := tgs_ok (Q := Q) (fun j hj => hv j (List.mem_cons_of_mem _ hj)) r1 h2' e fun σ2 r2 o2 w2 => q σ2 r2 (fun a z => oe a (o2 a z)) (by rw [w2, wipe_set (hv i List.mem_cons_self)])
    exact ⟨by rw [List.length_cons, List.length_cons, g1], v, vs', rfl, g2⟩
theorem tg_ok {φ Z} {env env' : Env'} {sto} {σ : St} {H} {g : TgI} {w : W} {x : V} {Q : St → Hp → Prop} (r : Rel K φ Z ⟨env, sto⟩ σ H) (h : Rep K φ (AV Z env σ) H w x) (e : setT g w env = some env')
    (q : ∀ σ2, Rel K φ Z ⟨env', sto⟩ σ2 H → (∀ a, OE env' σ2 a → OE env σ a) → wipe σ2 g.vars = wipe σ g.vars → (∀ j, j ∉ g.vars → σ2[j]? = σ[j]?) → Q σ2 H) : gOf K g x σ H Q := by
  cases g with
  | nm i =>
    cases e
    refine q _ (r.setv h) (OE.patch (set_patch r.len h)) (wipe_set (by simp [TgI.vars])) fun j hj => ?_
    exact List.getElem?_set_ne (fun z => hj (by rw [← z]; simp [TgI.vars]))
  | tp l =>
    cases w with
    | tup ws =>
      obtain ⟨p, vs, rfl, t, rr⟩ := rep_tup.mp h
      obtain ⟨g1, g2⟩ := tgs_ok (vars := l) (Q := Q) (fun _ h => h) r rr e fun σ2 r2 o2 w2 => q σ2 r2 o2 w2 fun j hj => wipe_out' w2 hj
      exact ⟨p, vs, rfl, t.sq, g1, g2⟩
    | _ => cases e
theorem yld_rep {φ1 A1 B H1 φ' A' H' H''} {w : W} {x : V} (y : Yld K φ1 A1 H1 H' H'' w x) (e : Ext φ1 B H1 φ' H') (hb : ∀ a, B a → A1 a) (ha : ∀ a, A' a → A1 a ∨ H1 a = none) :
    Rep K φ' A' H'' w x ∧ (H'' = H' ∨ ∃ p o, H' p = none ∧ H'' = upd H' p o) := by
  rcases y with ⟨rfl, r⟩ | ⟨p, ws, us, rfl, rfl, h0, rfl, r, z⟩
  · exact ⟨r.later e hb ha, .inl rfl⟩
  · refine ⟨rep_tup.mpr ⟨p, us, rfl, ⟨.inl upd_same, z⟩, ?_⟩, .inr ⟨p, _, h0, rfl⟩⟩
    exact (r.later e hb ha).ext (B := A') (Ext.upd h0) fun _ z => z
/-- a hidden list is written -/
theorem Rel.putZ {φ Z st} {σ : St} {H} {p : Addr} {o u : HO} (r : Rel K φ Z st σ H) (hz : Z p) (h0 : H p = some u) (hw : Wr u) : Rel K φ Z st σ (L2.upd H p o) := by
  have ina : AV Z st.env σ p := .inl hz
  refine ⟨⟨r.sto.len, r.sto.nd, r.sto.av, fun n b so e1 e2 => (r.sto.obj n b so e1 e2).put h0 hw (.inl ina) fun z => r.sto.av b (List.mem_of_getElem? e1) (by rw [z]; exact ina)⟩, r.len, fun i s e => ?_, r.dis, r.hid, fun b z => ?_⟩
  · obtain ⟨v, e1, q⟩ := r.env i s e
    refine ⟨v, e1, q.put h0 hw (.inl ina) fun kk ws z1 z2 => ?_⟩
    subst z1
    exact r.hid p ⟨i, kk, ws, e, by rw [e1, z2]⟩ hz
  · obtain ⟨o, q⟩ := r.zd b z
    by_cases hb : b = p
    · exact ⟨_, by rw [hb]; exact upd_same⟩
    · exact ⟨o, by rw [upd_ne hb]; exact q⟩
end

/-! ### comprehensions -/
section
variable {K : PySem.W.Frag} {ce : Nat → Option Addr} {Wx : WX} {C : CT}
theorem bind_ok {α β : Type} {r : R α} {f : α → ST → R β} {b : β} {st : ST} (h : r.bind f = .ok b st) : ∃ a st1, r = .ok a st1 ∧ f a st1 = .ok b st := by
  cases r with
  | ok a st1 => exact ⟨a, st1, rfl, h⟩
  | exn => cases h
  | bad => cases h
/-- the test's reading: none, or one -/
def tCond (K : PySem.W.Frag) (ce : Nat → Option Addr) (C : CT) (cond : IE) (has : Bool) : TT := match has with
  | true => tTst K ce (fun _ _ _ _ => False) (evB C cond).t
  | false => tYes
theorem imp_comp {elt : IE} {g : TgI} {src : SI} {cond : IE} {has : Bool} : ∀ σ H Q, tI K ce Wx (evB C (.comp elt g src cond has)).v σ H Q →
    tLc (tSI K ce Wx (evI C src)) (gOf K g) (tCond K ce C cond has) (tI K ce (fun _ _ _ _ => False) (evB C elt).v) g.vars σ H Q := by
  rintro σ H Q ⟨φ, Z, st, rel, o⟩
  simp only [evB, EB.of] at o
  refine ⟨φ, Z, st, rel, o.bind fun xs st1 φ1 H1 e1 s1 o1 rel1 J itw D hD => ?_⟩
  cases hc : compL (cStep (evB C cond).t (evB C elt).v g has) xs st1 with
  | bad => rw [hc] at o1; exact o1.elim
  | exn => rw [hc] at o1; exact o1.elim
  | ok wsf stf =>
    rw [hc] at o1
    obtain ⟨G, Y, wk, hzl, hG, hY⟩ := itw
    let ZD : Addr → Prop := fun a => Z a ∨ a = D
    obtain ⟨nD1, nD2⟩ := rel1.notAV hD
    -- the invariant
    refine lc_it wk (fun i H' => ∃ φ' ste acc ws rest, Rel K φ' ZD ⟨wipeE g.vars ste.env, ste.sto⟩ (wipe σ g.vars) H' ∧ Ext φ1 (OE st1.env σ) H1 φ' H' ∧ (∀ a, OE (wipeE g.vars ste.env) (wipe σ g.vars) a → OE st1.env σ a) ∧
        ste.env.length = st1.env.length ∧ H' D = some (.lst acc) ∧ Reps K φ' (AV ZD (wipeE g.vars ste.env) (wipe σ g.vars)) H' ws acc ∧ acc.length ≤ i ∧
        compL (cStep (evB C cond).t (evB C elt).v g has) (xs.drop i) ste = .ok rest stf ∧ ws ++ rest = wsf) ?_ ?_ ?_ ?_
    · refine ⟨φ1, st1, [], [], wsf, (rel1.fresh hD).wipe g.vars, Ext.upd hD, fun a z => ?_, rfl, upd_same, .nil, Nat.zero_le _, hc, rfl⟩
      obtain ⟨i, kk, ws, q1, q2⟩ := z
      obtain ⟨q3, q4⟩ := wipeE_get q1
      exact ⟨i, kk, ws, q3, by rw [← wipe_out q4]; exact q2⟩
    · rintro i H' _ ⟨φ', ste, acc, ws, rest, _, ext, _⟩
      exact hG φ' _ H' ext fun _ z => .inr z
    · rintro i x H' H'' hi ⟨φ', ste, acc, ws, rest, relI, ext, oeI, lenI, hDI, repI, lenA, compI, appI⟩ hy
      obtain ⟨w, hw, yl⟩ := hY i H' x H'' hi (hG φ' _ H' ext fun _ z => .inr z) hy
      have hdrop : xs.drop i = w :: xs.drop (i + 1) := by
        obtain ⟨h1, h2⟩ := List.getElem?_eq_some_iff.mp hw
        rw [List.drop_eq_getElem_cons h1, h2]
      rw [hdrop] at compI
      unfold compL at compI
      obtain ⟨oo, st2, hst, compI⟩ := bind_ok compI
      obtain ⟨rest', st3, hco, compI⟩ := bind_ok compI
      cases compI
      unfold cStep at hst
      cases hset : setT g w (wipeE g.vars ste.env) with
      | none => rw [hset] at hst; cases hst
      | some env' =>
        rw [hset] at hst
        dsimp only at hst
        -- the item
        have avs : ∀ a, AV ZD (wipeE g.vars ste.env) (wipe σ g.vars) a → AV Z st1.env σ a ∨ H1 a = none := fun a z => by
          rcases z with (z | z) | z
          · exact .inl (.inl z)
          · exact .inr (by rw [z]; exact hD)
          · exact .inl (.inr (oeI a z))
        obtain ⟨repx, hpp⟩ := yld_rep yl ext (fun _ z => .inr z) avs
        have hH'' : Rel K φ' ZD ⟨wipeE g.vars ste.env, ste.sto⟩ (wipe σ g.vars) H'' ∧ Ext φ1 (OE st1.env σ) H1 φ' H'' ∧ H'' D = some (.lst acc) ∧ Reps K φ' (AV ZD (wipeE g.vars ste.env) (wipe σ g.vars)) H'' ws acc := by
          rcases hpp with rfl | ⟨p, ob, h0, rfl⟩
          · exact ⟨relI, ext, hDI, repI⟩
          · exact ⟨relI.upd h0, ext.trans (Ext.upd (B := OE st1.env σ) h0) fun _ z => z, by rw [upd_ne (ne_of_none hDI h0)]; exact hDI, repI.ext (B := AV ZD (wipeE g.vars ste.env) (wipe σ g.vars)) (Ext.upd h0) fun _ z => z⟩
        obtain ⟨relJ, extJ, hDJ, repJ⟩ := hH''
        refine tg_ok relJ repx hset fun σ2 rel2 oe2 wi2 out2 => ⟨?_, ?_⟩
        · rw [wi2]
          -- wiped twice
          have idem : ∀ us : List Nat, (∀ u ∈ us, u ∈ g.vars) → wipe (wipe σ us) g.vars = wipe σ g.vars := by
            intro us
            induction us with
            | nil => intro _; rfl
            | cons u us ih =>
              intro hu
              show wipe ((wipe σ us).set u none) g.vars = _
              rw [wipe_set (hu u List.mem_cons_self), ih fun v hv => hu v (List.mem_cons_of_mem _ hv)]
          exact idem g.vars fun _ h => h
        · -- from the element on
          have wi3 : wipe σ2 g.vars = wipe σ g.vars := by
            rw [wi2]
            have idem : ∀ us : List Nat, (∀ u ∈ us, u ∈ g.vars) → wipe (wipe σ us) g.vars = wipe σ g.vars := by
              intro us
              induction us with
              | nil => intro _; rfl
              | cons u us ih =>
                intro hu
                show wipe ((wipe σ us).set u none) g.vars = _
                rw [wipe_set (hu u List.mem_cons_self), ih fun v hv => hu v (List.mem_cons_of_mem _ hv)]
            exact idem g.vars fun _ h => h
          -- a state further on in the turn
          have fin : ∀ {φ3 H3 st4} (s : Step φ' ⟨env', ste.sto⟩ σ2 H'' φ3 st4 H3) (r3 : Rel K φ3 ZD st4 σ2 H3), st4.env.length = env'.length →
              Rel K φ3 ZD ⟨wipeE g.vars st4.env, st4.sto⟩ (wipe σ g.vars) H3 ∧ Ext φ1 (OE st1.env σ) H1 φ3 H3 ∧ (∀ a, OE (wipeE g.vars st4.env) (wipe σ g.vars) a → OE st1.env σ a) ∧ st4.env.length = st1.env.length ∧ H3 D = some (.lst acc) ∧
                Reps K φ3 (AV ZD st4.env σ2) H3 ws acc ∧ ∀ a, AV ZD (wipeE g.vars st4.env) (wipe σ g.vars) a → AV ZD st4.env σ2 a := fun {φ3 H3 st4} s r3 hl => by
            have oeA : ∀ a, OE st4.env σ2 a → OE st1.env σ a := fun a z => oeI a (oe2 a (s.own a z))
            have oeW : ∀ a, OE (wipeE g.vars st4.env) (wipe σ g.vars) a → OE st4.env σ2 a := fun a ⟨i, kk, us, q1, q2⟩ => by
              obtain ⟨q3, q4⟩ := wipeE_get q1
              refine ⟨i, kk, us, q3, ?_⟩
              rw [← wi3, wipe_out q4] at q2
              exact q2
            have r4 : Rel K φ3 ZD ⟨wipeE g.vars st4.env, st4.sto⟩ (wipe σ2 g.vars) H3 := Rel.wipe (env := st4.env) (sto := st4.sto) r3 g.vars
            rw [wi3] at r4
            have nb : ∀ a, OE env' σ2 a → OE st1.env σ a := fun a z => oeI a (oe2 a z)
            refine ⟨r4, extJ.trans s.ext nb, fun a z => oeA a (oeW a z), ?_, ?_, ?_, fun a z => z.elim .inl fun q => .inr (oeW a q)⟩
            · have h1 := rel2.len
              have h2 := r3.len
              have h3 := relJ.len
              simp only at h1 h2 h3
              rw [h2, ← r3.len, hl, h1]
              have h4 : σ2.length = (wipe σ g.vars).length := by
                have := congrArg List.length wi2
                rw [wipe_length, wipe_length] at this
                exact this
              rw [h4, wipe_length]
              exact rel1.len.symm
            · have hDn : ¬ OE env' σ2 D := fun z => nD1 (.inr (nb D z))
              have hDf : D ∉ φ' := fun z => relJ.sto.av D z (.inl (.inr rfl))
              exact s.ext.frm D _ hDJ hDf hDn
            · have q : Reps K φ' (AV ZD env' σ2) H'' ws acc := repJ.anti fun a z => z.elim .inl fun q => .inr (oe2 a q)
              exact s.reps q
          have evlen : ∀ {φ3 H3 st4}, Rel K φ3 ZD st4 σ2 H3 → st4.env.length = env'.length := fun {φ3 H3 st4} r => by
            rw [r.len]; exact rel2.len.symm
          have last : ∀ {φ3 H3 st4} {r : RV} {y : V} {H9 : Hp} (s : Step φ' ⟨env', ste.sto⟩ σ2 H'' φ3 st4 H3), RRep K H9 φ3 ZD st4 σ2 H3 r y → oo = some r.w → st2 = st4 →
              ∃ acc, H3 D = some (.lst acc) ∧ acc.length < sizeLine ∧ (fun H' => ∃ φ' ste acc ws rest, Rel K φ' ZD ⟨wipeE g.vars ste.env, ste.sto⟩ (wipe σ g.vars) H' ∧ Ext φ1 (OE st1.env σ) H1 φ' H' ∧ (∀ a, OE (wipeE g.vars ste.env) (wipe σ g.vars) a → OE st1.env σ a) ∧
                ste.env.length = st1.env.length ∧ H' D = some (.lst acc) ∧ Reps K φ' (AV ZD (wipeE g.vars ste.env) (wipe σ g.vars)) H' ws acc ∧ acc.length ≤ i + 1 ∧
                compL (cStep (evB C cond).t (evB C elt).v g has) (xs.drop (i + 1)) ste = .ok rest stf ∧ ws ++ rest = wsf) (upd H3 D (.lst (acc ++ [y]))) := fun {φ3 H3 st4 r y H9} s rr eo es => by
            subst es
            obtain ⟨r3, rep3⟩ := rr.val
            obtain ⟨f1, f2, f3, f4, f5, f6, f7⟩ := fin s r3 (evlen r3)
            have zD : ZD D := .inr rfl
            refine ⟨acc, f5, by have := hzl; omega, φ3, st2, acc ++ [y], ws ++ [r.w], rest', f1.putZ zD f5 wr_lst, ?_, f3, f4, upd_same, ?_, ?_, hco, ?_⟩
            · -- the heap of the walk's beginning did not know the new list
              have e := f2
              refine ⟨e.pre, e.new, fun a o q => ?_, fun a us q => ?_, fun a us q => ?_, fun a o q n b => ?_⟩
              · have ne : a ≠ D := ne_of_none q hD
                rw [upd_ne ne]; exact e.dom a o q
              · have ne : a ≠ D := ne_of_none q hD
                rw [upd_ne ne]; exact e.tup a us q
              · have ne : a ≠ D := ne_of_none q hD
                rw [upd_ne ne]; exact e.mrk a us q
              · have ne : a ≠ D := ne_of_none q hD
                rw [upd_ne ne]; exact e.frm a o q n b
            · exact (((f6.append (.cons rep3 .nil)).anti f7).put f5 wr_lst (.inl (.inl (.inr rfl))))
            · rw [List.length_append, List.length_singleton]; omega
            · rw [List.append_assoc]
              rw [eo] at appI
              exact appI
          cases has with
          | false =>
            rw [if_neg Bool.false_ne_true] at hst
            obtain ⟨r, st4, h1, h2⟩ := bind_ok hst
            cases h2
            have key : ∀ Q' : Bool → Hp → Prop, Q' true H'' → tCond K ce C cond false σ2 H'' Q' := fun _ h => h
            refine key _ ?_
            rw [if_pos rfl]
            refine ⟨φ', ZD, ⟨env', ste.sto⟩, rel2, ?_⟩
            rw [h1]
            exact fun φ3 H3 s y rr => last s rr rfl rfl
          | true =>
            rw [if_pos rfl] at hst
            obtain ⟨b, st4, h1, h2⟩ := bind_ok hst
            refine ⟨φ', ZD, ⟨env', ste.sto⟩, rel2, ?_⟩
            rw [h1]
            intro φ3 H3 s3 r3
            cases b with
            | true =>
              rw [if_pos rfl] at h2 ⊢
              obtain ⟨r, st5, h3, h4⟩ := bind_ok h2
              cases h4
              refine ⟨φ3, ZD, st4, r3, ?_⟩
              rw [h3]
              exact fun φ4 H4 s4 y rr => last (s3.trans s4) rr rfl rfl
            | false =>
              rw [if_neg Bool.false_ne_true] at h2 ⊢
              cases h2
              obtain ⟨f1, f2, f3, f4, f5, f6, f7⟩ := fin s3 r3 (evlen r3)
              exact ⟨φ3, st2, acc, ws, rest', f1, f2, f3, f4, f5, f6.anti f7, by omega, hco, appI⟩
    · rintro H' ⟨φ', ste0, acc, ws, rest, relI, ext, oeI, lenI, hDI, repI, lenA, compI, appI⟩
      rw [List.drop_length] at compI
      unfold compL at compI
      cases compI
      rw [List.append_nil] at appI
      subst appI
      have o1 : ∀ φ' H', Step φ1 st1 σ H1 φ' ⟨restE g.vars st1.env stf.env, stf.sto⟩ H' → ∀ v, RRep K H φ' Z ⟨restE g.vars st1.env stf.env, stf.sto⟩ σ H' (.f .lst ws) v → Q v H' := o1
      have avs : ∀ a, AV ZD (wipeE g.vars stf.env) (wipe σ g.vars) a → AV Z st1.env σ a ∨ H1 a = none := fun a z => by
        rcases z with (z | z) | z
        · exact .inl (.inl z)
        · exact .inr (by rw [z]; exact hD)
        · exact .inl (.inr (oeI a z))
      have pat : ∀ (i : Nat) s, (restE g.vars st1.env stf.env)[i]? = some (some s) → ((wipeE g.vars stf.env)[i]? = some (some s) ∧ σ[i]? = (wipe σ g.vars)[i]?) ∨ ∃ w v, s = .val w ∧ σ[i]? = some (some v) ∧ Rep K φ' (AV ZD (wipeE g.vars stf.env) (wipe σ g.vars)) H' w v := fun i s h => by
        rcases restE_get h with ⟨h1, h2⟩ | ⟨h1, w, rfl, h2⟩
        · refine .inl ⟨?_, (wipe_out h1).symm⟩
          have gen : ∀ us : List Nat, i ∉ us → (wipeE us stf.env)[i]? = stf.env[i]? := by
            intro us
            induction us with
            | nil => intro _; rfl
            | cons u us ih =>
              intro hu
              simp only [List.mem_cons, not_or] at hu
              unfold wipeE
              rw [List.getElem?_set_ne (fun z => hu.1 z.symm), ih hu.2]
          rw [gen _ h1]; exact h2
        · obtain ⟨u, e3, v, e4, rr⟩ := rel1.env i _ h2
          subst e4
          exact .inr ⟨w, v, rfl, e3, rr.later ext (fun _ z => .inr z) avs⟩
      have relF : Rel K φ' ZD ⟨restE g.vars st1.env stf.env, stf.sto⟩ σ H' := relI.patch (by rw [restE_len, lenI]; exact rel1.len) pat
      have oeF : ∀ a, OE (restE g.vars st1.env stf.env) σ a → OE (wipeE g.vars stf.env) (wipe σ g.vars) a := OE.patch pat
      refine o1 φ' H' ⟨ext, fun a z => oeI a (oeF a z)⟩ (.ref D) ⟨D, acc, rfl, Dm.none s1.ext.dom hD, fun z => relI.sto.av D z (.inl (.inr rfl)), fun z => ?_, .ofl hDI (by omega), relF, repI.anti fun a z => z.elim .inl fun q => .inr (oeF a q)⟩
      rcases z with z | z
      · obtain ⟨ob, q⟩ := rel1.zd D z
        rw [hD] at q; cases q
      · exact nD1 (.inr (oeI D (oeF D z)))
end
end LL

set_option Elab.async false
set_option linter.all false
set_option maxRecDepth 100000
set_option maxHeartbeats 4000000
/-! LLi: the text and the small language: a check, and the soundness of expressions. -/
namespace LL
open PySem L2
variable [Cs]

def vis (sc : Scope) (x : Str) : Bool := match sc.names.lookup x with
  | some .local => true
  | some .cell => true
  | some .free => true
  | _ => false
def locl (sc : Scope) (x : Str) : Bool := match sc.names.lookup x with
  | some .local => true
  | some .cell => true
  | _ => false
def glb (sc : Scope) (x : Str) : Bool := match sc.names.lookup x with
  | some .globalImplicit => true
  | _ => false
def notCall : Expr → Bool
  | .Call _ _ _ _ => false
  | _ => true
def notStar : Expr → Bool
  | .Starred _ _ => false
  | _ => true
def notSlice : Expr → Bool
  | .Slice _ _ _ _ => false
  | _ => true
def notSet : Expr → Bool
  | .Set _ _ _ => false
  | _ => true
def notComp : Expr → Bool
  | .ListComp _ _ _ _ => false
  | .SetComp _ _ _ _ => false
  | .DictComp _ _ _ _ _ => false
  | _ => true
/-- a test by its value's truth -/
def plainT : Expr → Bool
  | .UnaryOp .Not _ _ => false
  | .BoolOp _ _ _ => false
  | .IfExp _ _ _ _ => false
  | .Compare _ _ _ _ => false
  | _ => true
def opM : Op2 → Operator → Bool
  | .add, .Add => true
  | .sub, .Sub => true
  | .mul, .Mult => true
  | .fdiv, .FloorDiv => true
  | .mod, .Mod => true
  | .pow, .Pow => true
  | _, _ => false
def cpM : Cp → CmpOp → Bool
  | .eq, .Eq => true
  | .ne, .NotEq => true
  | .lt, .Lt => true
  | .le, .LtE => true
  | .gt, .Gt => true
  | .ge, .GtE => true
  | .isN, .Is => true
  | .notN, .IsNot => true
  | .inn, .In => true
  | .nin, .NotIn => true
  | _, _ => false
def bfName : Bf → Str
  | .len => "len"
  | .int => "int"
  | .tuple => "tuple"
  | .list => "list"
  | .sorted => "sorted"
def tnName : Tn → Str
  | .tuple => "tuple"
  | .list => "list"
  | .str => "str"
  | .int => "int"
  | .bool => "bool"
def isTup : Expr → Bool
  | .Tuple _ _ _ => true
  | _ => false
def okName (x : Str) : Bool := !(x == ("__debug__" : Str)) && !(x == ("__classdict__" : Str)) && decide (x ≠ "__name__")
def chGs (sc : Scope) (N : List Str) : List Nat → List Expr → Bool
  | [], [] => true
  | i :: l, .Name x _ :: es => decide (N[i]? = some x) && locl sc x && chGs sc N l es
  | _, _ => false
def chG (sc : Scope) (N : List Str) : TgI → Expr → Bool
  | .nm i, .Name x _ => decide (N[i]? = some x) && locl sc x
  | .tp l, .Tuple es _ _ => chGs sc N l es
  | _, _ => false
def isAnd : IE → Bool
  | .andE _ _ => true
  | _ => false
def isOr : IE → Bool
  | .orE _ _ => true
  | _ => false
abbrev Ck := Scope → Expr → Bool
/-- of an expression; as a test -/
structure CB where
  e : Ck
  t : Ck
def CB.of (e : Ck) : CB := ⟨e, fun sc x => e sc x && plainT x⟩
def ckOwn (N : List Str) (g : TgI) : List (Str × Nat) := g.vars.filterMap fun i => (N[i]?).map fun x => (x, i)
section
variable (fn : List (Nat × Str × Nat)) (N : List Str)
mutual
def chB : IE → CB
  | .var i => .of fun sc x => match x with
    | .Name x _ => decide (N[i]? = some x) && vis sc x && okName x
    | _ => false
  | .non => .of fun sc x => match x with
    | .Constant .none _ _ => true
    | _ => false
  | .bl b => .of fun sc x => match x with
    | .Constant (.bool c) _ _ => decide (b = c)
    | _ => false
  | .int i => .of fun sc x => match x with
    | .Constant (.int j) _ _ => decide (i = j)
    | .UnaryOp .USub (.Constant (.int j) _ _) _ => decide (i = -j)
    | _ => false
  | .str s => .of fun sc x => match x with
    | .Constant (.str t) _ _ => decide (s = t) && PyData.strOk s
    | _ => false
  | .tup a => .of fun sc x => match x with
    | .Tuple es _ _ => chA a sc es
    | _ => false
  | .lst a => .of fun sc x => match x with
    | .List es _ => chA a sc es
    | _ => false
  | .bin o a b => .of fun sc x => match x with
    | .BinOp x p y _ => opM o p && (chB a).e sc x && (chB b).e sc y
    | _ => false
  | .cmp o a b => ⟨fun sc x => match x with
    | .Compare x [p] [y] _ => cpM o p && (chB a).e sc x && (chB b).e sc y && notSet y
    | _ => false, fun sc x => match x with
    | .Compare x [p] [y] _ => cpM o p && (chB a).e sc x && (chB b).e sc y && notSet y
    | _ => false⟩
  | .andE a b => ⟨fun sc x => match x with
    | .BoolOp .And [x, y] _ => (chB a).e sc x && (chB b).e sc y
    | .BoolOp .And (x :: y :: z :: r) p => (chB a).e sc x && (chB b).e sc (.BoolOp .And (y :: z :: r) p)
    | _ => false, fun sc x => match x with
    | .BoolOp .And [x, y] _ => (chB a).t sc x && (chB b).t sc y
    | .BoolOp .And (x :: y :: z :: r) p => (chB a).t sc x && (chB b).t sc (.BoolOp .And (y :: z :: r) p) && isAnd b
    | _ => false⟩
  | .orE a b => ⟨fun sc x => match x with
    | .BoolOp .Or [x, y] _ => (chB a).e sc x && (chB b).e sc y
    | .BoolOp .Or (x :: y :: z :: r) p => (chB a).e sc x && (chB b).e sc (.BoolOp .Or (y :: z :: r) p)
    | _ => false, fun sc x => match x with
    | .BoolOp .Or [x, y] _ => (chB a).t sc x && (chB b).t sc y
    | .BoolOp .Or (x :: y :: z :: r) p => (chB a).t sc x && (chB b).t sc (.BoolOp .Or (y :: z :: r) p) && isOr b
    | _ => false⟩
  | .notE a => ⟨fun sc x => match x with
    | .UnaryOp .Not x _ => (chB a).e sc x
    | _ => false, fun sc x => match x with
    | .UnaryOp .Not x _ => (chB a).t sc x
    | _ => false⟩
  | .ifE c a b => .of fun sc x => match x with
    | .IfExp x y z _ => (chB c).t sc x && (chB a).e sc y && (chB b).e sc z
    | _ => false
  | .idx a b => .of fun sc x => match x with
    | .Subscript x y _ => (chB a).e sc x && (chB b).e sc y && notSlice y
    | _ => false
  | .sfrom a lo => .of fun sc x => match x with
    | .Subscript x (.Slice (some l) none none _) _ => (chB a).e sc x && (chB lo).e sc l
    | _ => false
  | .upto a hi => .of fun sc x => match x with
    | .Subscript x (.Slice none (some h) none _) _ => (chB a).e sc x && (chB hi).e sc h
    | _ => false
  | .cut a lo hi => .of fun sc x => match x with
    | .Subscript x (.Slice (some l) (some h) none _) _ => (chB a).e sc x && (chB lo).e sc l && (chB hi).e sc h
    | _ => false
  | .rev a => .of fun sc x => match x with
    | .Subscript x (.Slice none none (some (.UnaryOp .USub (.Constant (.int j) _ _) _)) _) _ => (chB a).e sc x && decide (j = 1)
    | _ => false
  | .call f a => .of fun sc x => match x with
    | .Call (.Name x _) (e :: es) [] _ => decide (fn.lookup f = some (x, a.len)) && glb sc x && okName x && chA a sc (e :: es)
    | _ => false
  | .blt f a => .of fun sc x => match x with
    | .Call (.Name x _) (e :: es) [] _ => decide (x = bfName f) && glb sc x && chA a sc (e :: es)
    | _ => false
  | .pop i e => .of fun sc x => match x with
    | .Call (.Attribute (.Name x _) m ap) [y] [] cp => decide (N[i]? = some x) && vis sc x && okName x && decide (m = "pop") && (chB e).e sc y && notStar y && (ap.endLine == cp.line)
    | _ => false
  | .setLen e => .of fun sc x => match x with
    | .Call (.Name x _) [.Call (.Name y _) [z] [] _] [] _ => decide (x = "len") && glb sc x && decide (y = "set") && glb sc y && (chB e).e sc z && notStar z
    | _ => false
  | .isT e t => .of fun sc x => match x with
    | .Call (.Name x _) [y, .Name z _] [] _ => decide (x = "isinstance") && glb sc x && (chB e).e sc y && notStar y && decide (z = tnName t) && glb sc z
    | _ => false
  | .comp elt g src cond has => .of fun sc x => match x with
    | .ListComp e [⟨tg, it, ifs, k⟩] scope _ => decide (k = 0) && chI src sc tg it && notSet it && chG scope N g tg && blkC N sc scope (ckOwn N g) && decide ((ckOwn N g).map (·.2) = g.vars) &&
        (match has, ifs with
          | true, [c] => (chB cond).t scope c
          | false, [] => true
          | _, _ => false) && (chB elt).e scope e
    | _ => false
  | .nref e => .of (chB e).e
  | .idxOf a b => .of fun sc x => match x with
    | .Call (.Attribute x m ap) [y] [] cp => decide (m = "index") && (chB a).e sc x && notCall x && (chB b).e sc y && notStar y && (ap.endLine == cp.line)
    | _ => false
def chA : IA → Scope → List Expr → Bool
  | .nil, _, [] => true
  | .cons e r, sc, x :: xs => (chB e).e sc x && notStar x && chA r sc xs
  | _, _, _ => false
def chI : SI → Scope → Expr → Expr → Bool
  | .seq e, sc, _, x => (chB e).e sc x
  | .rng e, sc, _, x => match x with
    | .Call (.Name x _) [y] [] _ => decide (x = "range") && glb sc x && (chB e).e sc y && notStar y
    | _ => false
  | .enm e, sc, tg, x => match x with
    | .Call (.Name x _) [y] [] _ => decide (x = "enumerate") && glb sc x && (chB e).e sc y && notStar y && isTup tg
    | _ => false
end
end

/-! ### the side conditions of the rules -/
theorem star_of {e : Expr} {es : List Expr} {env : Env} (h : notStar e = true) : starEach (e :: es) env = (false, eval e env) :: starEach es env := by
  cases e <;> first | rfl | cases h
theorem set_of {e : Expr} {op : CmpOp} (h : notSet e = true) : behindInMarks op e = false := by
  cases e <;> first | rfl | cases h
theorem ix_of {e : Expr} (h : notSlice e = true) : PlainIx e := by
  intro o i
  cases e <;> first | rfl | cases h
theorem fold_of {e : Expr} {env : Env} (h : notSet e = true) : ∀ x, foldedSetIterable e env x = pure x := by
  intro x
  cases e <;> first | rfl | cases h
theorem base_of {e : Expr} {n : Str} {env : Env} {w : Sem Value} (h : notCall e = true) : attributeBase e n env w = w := by
  cases e <;> first | rfl | cases h
theorem swap_of {e : Expr} {t : Option Expr} {l : Nat} {env : Env} (h : notComp e = true) : swapsWith e t l env = pure false := by
  cases e <;> first | rfl | cases h
theorem true_of {e : Expr} {env : Env} (h : plainT e = true) : ∀ whole, isTrue e env whole = (do let v ← whole; standAt e.pos; holding [v] (truthy v)) := by
  intro w
  cases e <;> first | rfl | cases h | (rename_i op _ _; cases op <;> first | rfl | cases h)
theorem names_of {x : Str} (h : okName x = true) : (x == ("__debug__" : Str)) = false ∧ (x == ("__classdict__" : Str)) = false ∧ x ≠ "__name__" := by
  simp only [okName, Bool.and_eq_true, Bool.not_eq_true', decide_eq_true_eq] at h
  exact ⟨h.1.1, h.1.2, h.2⟩
theorem any_star {pos : Pos} {env : Env} : ∀ {es : List Expr}, es.all notStar = true → (backTo pos (starEach es env)).any (·.1) = false
  | [], _ => rfl
  | e :: es, h => by
    rw [List.all_cons, Bool.and_eq_true] at h
    rw [star_of h.1]
    show (false || (backTo pos (starEach es env)).any (·.1)) = false
    rw [any_star h.2]; rfl
theorem chA_star {fn : List (Nat × Str × Nat)} {N : List Str} {sc : Scope} : ∀ {r : IA} {es : List Expr}, chA fn N r sc es = true → es.all notStar = true
  | .nil, [], _ => rfl
  | .nil, _ :: _, h => by simp [chA] at h
  | .cons _ _, [], h => by simp [chA] at h
  | .cons e r, x :: xs, h => by
    simp only [chA, Bool.and_eq_true] at h
    rw [List.all_cons, Bool.and_eq_true]
    exact ⟨h.1.2, chA_star h.2⟩

/-- built-in names that the texts use -/
def bNames : List Str := ["len", "int", "tuple", "list", "range", "enumerate", "sorted", "isinstance", "set", "str", "all", "any", "abs", "min", "max", "divmod", "ValueError", "bool", "super"]
/-- where an expression stands -/
structure Kx (ce : Nat → Option Addr) (C : CT) (fn : List (Nat × Str × Nat)) (N : List Str) (X : Cx) (sc : Scope) : Prop where
  hN : X.N = N
  nd : N.Nodup
  calm : X.calm = true
  hu : X.A.units + 64 < cLine
  sv : ∀ x, vis sc x = true → Vis X.env.scope x
  sl : ∀ x, locl sc x = true → Loc X.env.scope x
  sg : ∀ x, glb sc x = true → Gl X x
  sf : ∀ x, sc.names.lookup x = some .cell ∨ sc.names.lookup x = some .free → X.env.scope.names.lookup x = some .cell ∨ X.env.scope.names.lookup x = some .free
  fnl : ∀ x, locl sc x = true → X.fn x = true ∨ X.env.scope.names.lookup x = some .local
  bn : ∀ b ∈ bNames, X.mg b = none
  fns : ∀ f x n, fn.lookup f = some (x, n) → ∃ a fd ps L, Room L X.A ∧ X.mg x = some (.ref a) ∧ PySem.W.keepIn X.K (.ref a) = true ∧ Binds X.K fd ps [] ∧ ps.length = n ∧ FnOk X.prog X.w X.K X.mg X.base (L2.CX X.prog X.w) L a fd ps (spC X.K ce C f n)

theorem lookup_rel {env : Env} : ∀ {l : List (Str × NameKind)} {x : Str} {k : NameKind}, l.lookup x = some k →
    (l.map fun (n, k) => if (k == NameKind.free && env.scope.kind == .function && env.kindOf n == some .cell) then (n, NameKind.cell) else (n, k)).lookup x = some k ∨
      (k = .free ∧ (l.map fun (n, k) => if (k == NameKind.free && env.scope.kind == .function && env.kindOf n == some .cell) then (n, NameKind.cell) else (n, k)).lookup x = some .cell)
  | [], _, _, h => by simp at h
  | (n, j) :: l, x, k, h => by
    rw [List.lookup_cons] at h
    rw [List.map_cons]
    cases e : x == n with
    | true =>
      rw [e] at h
      simp only [Option.some.injEq] at h
      subst h
      dsimp only
      split
      · rename_i c
        simp only [Bool.and_eq_true] at c
        refine .inr ⟨by simpa using c.1.1, ?_⟩
        rw [List.lookup_cons, e]
      · exact .inl (by rw [List.lookup_cons, e])
    | false =>
      rw [e] at h
      have h' : l.lookup x = some k := h
      dsimp only
      split
      · rw [List.lookup_cons, e]; exact lookup_rel h'
      · rw [List.lookup_cons, e]; exact lookup_rel h'
theorem rel_scope {scope : Scope} {env : Env} {x : Str} {k : NameKind} (h : scope.names.lookup x = some k) : (relabel scope env).names.lookup x = some k ∨ (k = .free ∧ (relabel scope env).names.lookup x = some .cell) := lookup_rel h
theorem vis_of {sc : Scope} {x : Str} (h : vis sc x = true) : Vis sc x := by
  unfold vis at h
  split at h <;> first | exact .inl (by assumption) | exact .inr (.inl (by assumption)) | exact .inr (.inr (by assumption)) | cases h
theorem locl_of {sc : Scope} {x : Str} (h : locl sc x = true) : Loc sc x := by
  unfold locl at h
  split at h <;> first | exact .inl (by assumption) | exact .inr (by assumption) | cases h
theorem glb_of {sc : Scope} {x : Str} (h : glb sc x = true) : sc.names.lookup x = some .globalImplicit := by
  unfold glb at h
  split at h <;> first | assumption | cases h
end LL

set_option Elab.async false
set_option linter.all false
set_option maxRecDepth 100000
set_option maxHeartbeats 4000000
/-! LLj: the soundness of expressions. -/
namespace LL
open PySem L2
variable [Cs]

section
variable {ce : Nat → Option Addr} {C : CT} {fn : List (Nat × Str × Nat)} {N : List Str}
/-- a comprehension's block -/
theorem Kx.blk {X : Cx} {sc : Scope} (k : Kx ce C fn N X sc) {s : Shared} {H : Hp} {scope : Scope} {cl : List (Str × Addr)} {c : Addr} {fp : List Addr} : Kx ce C fn N (X.blk s H scope (compEnvC scope cl c X.env) fp) scope where
  hN := k.hN
  nd := k.nd
  calm := k.calm
  hu := k.hu
  sv := fun x h => by
    rcases vis_of h with h | h | h
    · exact (rel_scope (env := X.env) h).elim .inl fun z => nomatch z.1
    · exact (rel_scope (env := X.env) h).elim (fun z => .inr (.inl z)) fun z => nomatch z.1
    · exact (rel_scope (env := X.env) h).elim (fun z => .inr (.inr z)) fun z => .inr (.inl z.2)
  sl := fun x h => by
    rcases locl_of h with h | h
    · exact (rel_scope (env := X.env) h).elim .inl fun z => nomatch z.1
    · exact (rel_scope (env := X.env) h).elim .inr fun z => nomatch z.1
  sg := fun x h => (rel_scope (env := X.env) (glb_of h)).elim (fun z => z) fun z => nomatch z.1
  sf := fun x h => by
    rcases h with h | h
    · exact (rel_scope (env := X.env) h).elim .inl fun z => nomatch z.1
    · exact (rel_scope (env := X.env) h).elim .inr fun z => .inl z.2
  fnl := fun x h => by
    rcases locl_of h with h | h
    · exact (rel_scope (env := X.env) h).elim .inr fun z => nomatch z.1
    · refine .inl ?_
      show (scope.names.lookup x == some .cell) = true
      rw [h]; rfl
  bn := k.bn
  fns := k.fns
theorem opd_eq {e : IE} {m : ST → R RV} (h : ∀ i, e ≠ .var i) : opd e m = fun st => (m st).bind fun v st => .ok (.v v.w) st := by
  funext st
  cases e <;> first | rfl | exact (h _ rfl).elim
theorem soO {X : Cx} {sc : Scope} {Wx : WX} {e : IE} {a : Expr} (k : Kx ce C fn N X sc) (h : (chB fn N e).e sc a = true) (hE : PE X a (tI X.K ce Wx (evB C e).v)) : PE X a (tO X.K ce Wx (opd e (evB C e).v)) := by
  cases e with
  | var i =>
    simp only [chB, CB.of] at h
    split at h
    · simp only [Bool.and_eq_true, decide_eq_true_eq] at h
      obtain ⟨⟨h1, h2⟩, h3⟩ := h
      obtain ⟨n1, n2, _⟩ := names_of h3
      exact PE.imp (pe_var (by rw [k.hN]; exact h1) (k.sv _ h2) n1 n2) imp_varO
    · cases h
  | _ => exact PE.imp hE (by rw [opd_eq (by intro i z; cases z)]; exact imp_opd)
theorem tg_chk {X : Cx} {sc : Scope} {g : TgI} {a : Expr} (k : Kx ce C fn N X sc) (h : chG sc N g a = true) : PG X a (gOf X.K g) := by
  have one : ∀ {i : Nat} {x : Str} {p : Pos}, N[i]? = some x → locl sc x = true → PG X (.Name x p) (gName i) := fun {i x p} h1 h2 =>
    pg_name (by rw [k.hN]; exact k.nd) (by rw [k.hN]; exact h1) (k.sl _ h2) (k.fnl _ h2)
  unfold chG at h
  split at h
  · simp only [Bool.and_eq_true, decide_eq_true_eq] at h
    exact one h.1 h.2
  · rename_i l es kk p
    have many : ∀ {l : List Nat} {es : List Expr}, chGs sc N l es = true → PGs X es (gOfs l) ∧ (assignEach es X.env).length = l.length ∧ (assignEach es X.env).findIdx? (·.1) = none := by
      intro l
      induction l with
      | nil =>
        intro es h
        cases es with
        | nil => exact ⟨pgs_nil, rfl, rfl⟩
        | cons _ _ => cases h
      | cons i l ih =>
        intro es h
        cases es with
        | nil => cases h
        | cons e es =>
          cases e <;> simp only [chGs] at h <;> try (cases h)
          simp only [Bool.and_eq_true, decide_eq_true_eq] at h
          obtain ⟨h1, h2, h3⟩ := ih h.2
          refine ⟨pgs_cons (one h.1.1 h.1.2) h1, ?_, ?_⟩
          · show (_ :: assignEach es X.env).length = _
            rw [List.length_cons, List.length_cons, h2]
          · show List.findIdx? (·.1) ((false, _) :: assignEach es X.env) = none
            rw [List.findIdx?_cons, h3]; rfl
    obtain ⟨h1, h2, h3⟩ := many h
    exact pg_tup k.calm h1 h2 h3
  · cases h
/-- by a built-in function's name -/
theorem bu_any {X : Cx} {sc : Scope} (k : Kx ce C fn N X sc) {f : Bf} {x : Str} {e : Expr} {es : List Expr} {p pos : Pos} {t : TA} (hx : x = bfName f) (hg : glb sc x = true) (ha : PA X (e :: es) t) (hs : (e :: es).all notStar = true) :
    PE X (.Call (.Name x p) (e :: es) [] pos) (tCB (rUc X.K f) t) := by
  rw [List.all_cons, Bool.and_eq_true] at hs
  have h1 := star_of (es := es) (env := X.env) hs.1
  have h2 := any_star (pos := pos) (env := X.env) hs.2
  have hg' := k.sg _ hg
  subst hx
  cases f with
  | len => exact pe_callB bu_len hg' (k.bn _ (by decide +kernel)) PySem.boot_len ha (by decide +kernel) (by decide +kernel) h1 h2
  | int => exact pe_callTy bu_int hg' (k.bn _ (by decide +kernel)) (by decide +kernel) ha (by decide +kernel) (by decide +kernel) h1 h2
  | tuple => exact pe_callTy bu_tuple hg' (k.bn _ (by decide +kernel)) (by decide +kernel) ha (by decide +kernel) (by decide +kernel) h1 h2
  | list => exact pe_callTy bu_list hg' (k.bn _ (by decide +kernel)) (by decide +kernel) ha (by decide +kernel) (by decide +kernel) h1 h2
  | sorted => exact pe_callB bu_sorted hg' (k.bn _ (by decide +kernel)) (by decide +kernel) ha (by decide +kernel) (by decide +kernel) h1 h2
/-- what is shown of an expression -/
def SoE (ce : Nat → Option Addr) (C : CT) (fn : List (Nat × Str × Nat)) (N : List Str) (e : IE) : Prop :=
  ∀ (X : Cx) (sc : Scope) (Wx : WX) (a : Expr), Kx ce C fn N X sc → Takes X Wx → ((chB fn N e).e sc a = true → PE X a (tI X.K ce Wx (evB C e).v)) ∧ ((chB fn N e).t sc a = true → PT X a (tTst X.K ce Wx (evB C e).t))
/-- a form whose test is its value's truth -/
theorem so_of {e : IE} (hb : (chB fn N e).t = (fun sc x => (chB fn N e).e sc x && plainT x)) (ht : (evB C e).t = fun st => tst (opd e (evB C e).v st))
    (h : ∀ (X : Cx) (sc : Scope) (Wx : WX) (a : Expr), Kx ce C fn N X sc → Takes X Wx → (chB fn N e).e sc a = true → PE X a (tI X.K ce Wx (evB C e).v)) : SoE ce C fn N e := fun X sc Wx a k tk => by
  refine ⟨h X sc Wx a k tk, fun hc => ?_⟩
  rw [hb] at hc
  simp only [Bool.and_eq_true] at hc
  rw [ht]
  exact PT.imp (pt_truth (soO k hc.1 (h X sc Wx a k tk hc.1)) (true_of hc.2)) imp_tst
theorem op_of {X : Cx} : ∀ {o : Op2} {p : Operator}, opM o p = true → OpR X (binaryOp p) (rU X.K (op2 o))
  | .add, p, h => by cases p <;> first | exact (Bool.false_ne_true h).elim | exact ou_add
  | .sub, p, h => by cases p <;> first | exact (Bool.false_ne_true h).elim | exact ou_sub
  | .mul, p, h => by cases p <;> first | exact (Bool.false_ne_true h).elim | exact ou_mul
  | .fdiv, p, h => by cases p <;> first | exact (Bool.false_ne_true h).elim | exact ou_fdiv
  | .mod, p, h => by cases p <;> first | exact (Bool.false_ne_true h).elim | exact ou_mod
  | .pow, p, h => by cases p <;> first | exact (Bool.false_ne_true h).elim | exact ou_pow
theorem cp_of {X : Cx} (hu : X.A.units + 64 < cLine) : ∀ {o : Cp} {p : CmpOp}, cpM o p = true → OpR X (compareOp p) (rU X.K fun v w => vB (cmp2 o v w))
  | .eq, p, h => by cases p <;> first | exact (Bool.false_ne_true h).elim | exact oc_eq hu
  | .ne, p, h => by cases p <;> first | exact (Bool.false_ne_true h).elim | exact oc_ne hu
  | .lt, p, h => by cases p <;> first | exact (Bool.false_ne_true h).elim | exact oc_lt
  | .le, p, h => by cases p <;> first | exact (Bool.false_ne_true h).elim | exact oc_le
  | .gt, p, h => by cases p <;> first | exact (Bool.false_ne_true h).elim | exact oc_gt
  | .ge, p, h => by cases p <;> first | exact (Bool.false_ne_true h).elim | exact oc_ge
  | .isN, p, h => by cases p <;> first | exact (Bool.false_ne_true h).elim | exact oc_isN
  | .notN, p, h => by cases p <;> first | exact (Bool.false_ne_true h).elim | exact oc_notN
  | .inn, p, h => by cases p <;> first | exact (Bool.false_ne_true h).elim | exact oc_in
  | .nin, p, h => by cases p <;> first | exact (Bool.false_ne_true h).elim | exact oc_nin
def SoA (ce : Nat → Option Addr) (C : CT) (fn : List (Nat × Str × Nat)) (N : List Str) (r : IA) : Prop :=
  ∀ (X : Cx) (sc : Scope) (Wx : WX) (es : List Expr), Kx ce C fn N X sc → Takes X Wx → chA fn N r sc es = true → PA X es (tAr X.K ce Wx (evA C r))
def SoO (ce : Nat → Option Addr) (C : CT) (fn : List (Nat × Str × Nat)) (N : List Str) (r : IA) : Prop :=
  ∀ (X : Cx) (sc : Scope) (Wx : WX) (es : List Expr), Kx ce C fn N X sc → Takes X Wx → chA fn N r sc es = true → PA X es (tOs X.K ce Wx (evO C r))
def SoI (ce : Nat → Option Addr) (C : CT) (fn : List (Nat × Str × Nat)) (N : List Str) (r : SI) : Prop :=
  ∀ (X : Cx) (sc : Scope) (Wx : WX) (tg a : Expr), Kx ce C fn N X sc → Takes X Wx → chI fn N r sc tg a = true → PI X tg a (tSI X.K ce Wx (evI C r))
theorem so_var {i : Nat}  : SoE ce C fn N (.var i) := so_of rfl rfl fun X sc Wx a k tk h => by
    simp only [chB, CB.of] at h
    split at h
    · simp only [Bool.and_eq_true, decide_eq_true_eq] at h
      obtain ⟨⟨h1, h2⟩, h3⟩ := h
      obtain ⟨n1, n2, _⟩ := names_of h3
      exact PE.imp (pe_var (by rw [k.hN]; exact h1) (k.sv _ h2) n1 n2) imp_var
    · cases h
theorem so_non   : SoE ce C fn N (.non) := so_of rfl rfl fun X sc Wx a k tk h => by
    simp only [chB, CB.of] at h
    split at h
    · exact PE.imp pe_non (imp_c fun _ _ _ _ _ _ => rep_non.mpr rfl)
    · cases h
theorem so_bl {b : Bool}  : SoE ce C fn N (.bl b) := so_of rfl rfl fun X sc Wx a k tk h => by
    simp only [chB, CB.of] at h
    split at h
    · obtain rfl := of_decide_eq_true h
      exact PE.imp pe_bl (imp_c fun _ _ _ _ _ _ => rep_bl.mpr rfl)
    · cases h
theorem so_int {i : Int}  : SoE ce C fn N (.int i) := so_of rfl rfl fun X sc Wx a k tk h => by
    simp only [chB, CB.of] at h
    split at h
    · obtain rfl := of_decide_eq_true h
      exact PE.imp pe_int (imp_c fun _ _ _ _ _ _ => rep_int.mpr rfl)
    · obtain rfl := of_decide_eq_true h
      refine PE.imp (pe_un un_neg pe_int) fun σ H Q q => ?_
      exact ⟨_, rfl, imp_c (v := .int _) (fun _ _ _ _ _ _ => rep_int.mpr rfl) σ H Q q⟩
    · cases h
theorem so_str {s : Str}  : SoE ce C fn N (.str s) := so_of rfl rfl fun X sc Wx a k tk h => by
    simp only [chB, CB.of] at h
    split at h
    · simp only [Bool.and_eq_true, decide_eq_true_eq] at h
      obtain ⟨rfl, h2⟩ := h
      exact PE.imp pe_str (imp_c fun _ _ _ _ _ _ => rep_str.mpr ⟨rfl, h2⟩)
    · cases h
theorem so_tup {r : IA} (hA_r : SoA ce C fn N r) : SoE ce C fn N (.tup r) := so_of rfl rfl fun X sc Wx a k tk h => by
    simp only [chB, CB.of] at h
    split at h
    · exact PE.imp (pe_tup (hA_r X sc Wx _ k tk h)) imp_tup
    · cases h
theorem so_lst {r : IA} (hA_r : SoA ce C fn N r) : SoE ce C fn N (.lst r) := so_of rfl rfl fun X sc Wx a k tk h => by
    simp only [chB, CB.of] at h
    split at h
    · exact PE.imp (pe_lst (hA_r X sc Wx _ k tk h)) imp_lst
    · cases h
theorem so_bin {o : Op2} {x : IE} {y : IE} (h_x : SoE ce C fn N x) (h_y : SoE ce C fn N y) : SoE ce C fn N (.bin o x y) := so_of rfl rfl fun X sc Wx a k tk h => by
    simp only [chB, CB.of] at h
    split at h
    · simp only [Bool.and_eq_true] at h
      exact PE.imp (pe_op (op_of h.1.1) (soO k h.1.2 ((h_x X sc Wx _ k tk).1 h.1.2)) (soO k h.2 ((h_y X sc Wx _ k tk).1 h.2))) imp_bin
    · cases h
theorem so_cmp {o : Cp} {x : IE} {y : IE} (h_x : SoE ce C fn N x) (h_y : SoE ce C fn N y) : SoE ce C fn N (.cmp o x y) := fun X sc Wx a k tk => by
    refine ⟨fun h => ?_, fun h => ?_⟩
    · simp only [chB] at h
      split at h
      · simp only [Bool.and_eq_true] at h
        exact PE.imp (pe_cmpR (cp_of k.hu h.1.1.1) (soO k h.1.1.2 ((h_x X sc Wx _ k tk).1 h.1.1.2)) (soO k h.1.2 ((h_y X sc Wx _ k tk).1 h.1.2)) (set_of h.2)) imp_bin
      · cases h
    · simp only [chB] at h
      split at h
      · simp only [Bool.and_eq_true] at h
        exact PT.imp (pt_cmpR (cp_of k.hu h.1.1.1) (soO k h.1.1.2 ((h_x X sc Wx _ k tk).1 h.1.1.2)) (soO k h.1.2 ((h_y X sc Wx _ k tk).1 h.1.2)) (set_of h.2)) (imp_cmpT fun i z => nomatch z)
      · cases h
theorem pw_of {X : Cx} {op : PySem.BoolOp} {es : List Expr} {p : Pos} {t : TT} (h : PT X (.BoolOp op es p) t) : PW X (.BoolOp op es p) t :=
  ⟨fun wh pins s σ H Q I q => by
    have e : ∀ w : Sem Value, PySem.isTrue (.BoolOp op es p) X.env w = PySem.isTrue (.BoolOp op es p) X.env (eval (.BoolOp op es p) X.env) := fun w => rfl
    rw [e]
    exact h.run pins s σ H Q I q⟩
theorem pt_and3 {X : Cx} {a b : Expr} {r : List Expr} {p : Pos} {ta tb : TT} (ha : PT X a ta) (hb : PT X (.BoolOp .And (b :: r) p) tb) : PT X (.BoolOp .And (a :: b :: r) p) (tAnd ta tb) := PW.pt (pw_and ha (pw_of hb))
theorem pt_or3 {X : Cx} {a b : Expr} {r : List Expr} {p : Pos} {ta tb : TT} (ha : PT X a ta) (hb : PT X (.BoolOp .Or (b :: r) p) tb) : PT X (.BoolOp .Or (a :: b :: r) p) (tOr ta tb) := PW.pt (pw_or ha (pw_of hb))
theorem so_andE {x : IE} {y : IE} (h_x : SoE ce C fn N x) (h_y : SoE ce C fn N y) : SoE ce C fn N (.andE x y) := fun X sc Wx a k tk => by
    refine ⟨fun h => ?_, fun h => ?_⟩
    · simp only [chB] at h
      split at h
      · simp only [Bool.and_eq_true] at h
        exact PE.imp (pe_and ((h_x X sc Wx _ k tk).1 h.1) (pe_one ((h_y X sc Wx _ k tk).1 h.2))) imp_andV
      · simp only [Bool.and_eq_true] at h
        exact PE.imp (pe_and ((h_x X sc Wx _ k tk).1 h.1) ((h_y X sc Wx _ k tk).1 h.2)) imp_andV
      · cases h
    · simp only [chB] at h
      split at h
      · simp only [Bool.and_eq_true] at h
        exact PT.imp (PW.pt (pw_and ((h_x X sc Wx _ k tk).2 h.1) (pw_and1 ((h_y X sc Wx _ k tk).2 h.2)))) imp_andT
      · simp only [Bool.and_eq_true] at h
        exact PT.imp (pt_and3 ((h_x X sc Wx _ k tk).2 h.1.1) ((h_y X sc Wx _ k tk).2 h.1.2)) imp_andT
      · cases h
theorem so_orE {x : IE} {y : IE} (h_x : SoE ce C fn N x) (h_y : SoE ce C fn N y) : SoE ce C fn N (.orE x y) := fun X sc Wx a k tk => by
    refine ⟨fun h => ?_, fun h => ?_⟩
    · simp only [chB] at h
      split at h
      · simp only [Bool.and_eq_true] at h
        exact PE.imp (pe_or ((h_x X sc Wx _ k tk).1 h.1) (pe_one ((h_y X sc Wx _ k tk).1 h.2))) imp_orV
      · simp only [Bool.and_eq_true] at h
        exact PE.imp (pe_or ((h_x X sc Wx _ k tk).1 h.1) ((h_y X sc Wx _ k tk).1 h.2)) imp_orV
      · cases h
    · simp only [chB] at h
      split at h
      · simp only [Bool.and_eq_true] at h
        exact PT.imp (PW.pt (pw_or ((h_x X sc Wx _ k tk).2 h.1) (pw_or1 ((h_y X sc Wx _ k tk).2 h.2)))) imp_orT
      · simp only [Bool.and_eq_true] at h
        exact PT.imp (pt_or3 ((h_x X sc Wx _ k tk).2 h.1.1) ((h_y X sc Wx _ k tk).2 h.1.2)) imp_orT
      · cases h
theorem so_notE {x : IE} (h_x : SoE ce C fn N x) : SoE ce C fn N (.notE x) := fun X sc Wx a k tk => by
    refine ⟨fun h => ?_, fun h => ?_⟩
    · simp only [chB] at h
      split at h
      · exact PE.imp (pe_not ((h_x X sc Wx _ k tk).1 h)) imp_notV
      · cases h
    · simp only [chB] at h
      split at h
      · exact PT.imp (pt_not ((h_x X sc Wx _ k tk).2 h)) imp_notT
      · cases h
theorem so_ifE {c : IE} {x : IE} {y : IE} (h_c : SoE ce C fn N c) (h_x : SoE ce C fn N x) (h_y : SoE ce C fn N y) : SoE ce C fn N (.ifE c x y) := so_of rfl rfl fun X sc Wx a k tk h => by
    simp only [chB, CB.of] at h
    split at h
    · simp only [Bool.and_eq_true] at h
      exact PE.imp (pe_ifExp ((h_c X sc Wx _ k tk).2 h.1.1) ((h_x X sc Wx _ k tk).1 h.1.2) ((h_y X sc Wx _ k tk).1 h.2)) imp_ifV
    · cases h
theorem so_idx {x : IE} {y : IE} (h_x : SoE ce C fn N x) (h_y : SoE ce C fn N y) : SoE ce C fn N (.idx x y) := so_of rfl rfl fun X sc Wx a k tk h => by
    simp only [chB, CB.of] at h
    split at h
    · simp only [Bool.and_eq_true] at h
      exact PE.imp (pe_ix ix_U (soO k h.1.1 ((h_x X sc Wx _ k tk).1 h.1.1)) (soO k h.1.2 ((h_y X sc Wx _ k tk).1 h.1.2)) (ix_of h.2)) imp_bin
    · cases h
theorem so_sfrom {x : IE} {y : IE} (h_x : SoE ce C fn N x) (h_y : SoE ce C fn N y) : SoE ce C fn N (.sfrom x y) := so_of rfl rfl fun X sc Wx a k tk h => by
    simp only [chB, CB.of] at h
    split at h
    · simp only [Bool.and_eq_true] at h
      exact PE.imp (pe_slice sl_U (soO k h.1 ((h_x X sc Wx _ k tk).1 h.1)) (po_some (soO k h.2 ((h_y X sc Wx _ k tk).1 h.2))) po_none) imp_from
    · cases h
theorem so_upto {x : IE} {y : IE} (h_x : SoE ce C fn N x) (h_y : SoE ce C fn N y) : SoE ce C fn N (.upto x y) := so_of rfl rfl fun X sc Wx a k tk h => by
    simp only [chB, CB.of] at h
    split at h
    · simp only [Bool.and_eq_true] at h
      exact PE.imp (pe_slice sl_U (soO k h.1 ((h_x X sc Wx _ k tk).1 h.1)) po_none (po_some (soO k h.2 ((h_y X sc Wx _ k tk).1 h.2)))) imp_upto
    · cases h
theorem so_cut {x : IE} {y : IE} {z : IE} (h_x : SoE ce C fn N x) (h_y : SoE ce C fn N y) (h_z : SoE ce C fn N z) : SoE ce C fn N (.cut x y z) := so_of rfl rfl fun X sc Wx a k tk h => by
    simp only [chB, CB.of] at h
    split at h
    · simp only [Bool.and_eq_true] at h
      exact PE.imp (pe_slice sl_U (soO k h.1.1 ((h_x X sc Wx _ k tk).1 h.1.1)) (po_some (soO k h.1.2 ((h_y X sc Wx _ k tk).1 h.1.2))) (po_some (soO k h.2 ((h_z X sc Wx _ k tk).1 h.2)))) imp_cut
    · cases h
theorem so_rev {x : IE} (h_x : SoE ce C fn N x) : SoE ce C fn N (.rev x) := so_of rfl rfl fun X sc Wx a k tk h => by
    simp only [chB, CB.of] at h
    split at h
    · simp only [Bool.and_eq_true, decide_eq_true_eq] at h
      obtain ⟨h1, rfl⟩ := h
      exact PE.imp (pe_revL (soO k h1 ((h_x X sc Wx _ k tk).1 h1))) imp_rev
    · cases h
theorem so_call {f : Nat} {r : IA} (hA_r : SoA ce C fn N r) : SoE ce C fn N (.call f r) := so_of rfl rfl fun X sc Wx a k tk h => by
    simp only [chB, CB.of] at h
    split at h
    · simp only [Bool.and_eq_true, decide_eq_true_eq] at h
      obtain ⟨⟨⟨h1, h2⟩, h3⟩, h4⟩ := h
      obtain ⟨n1, _, _⟩ := names_of h3
      obtain ⟨b, fd, ps, L, hr, hm, hk, hb, hl, F⟩ := k.fns f _ _ h1
      have hs := chA_star h4
      rw [List.all_cons, Bool.and_eq_true] at hs
      exact PE.imp (pe_callS F hr (k.sg _ h2) hm hk hb (fun σ => passAt tk σ) (hA_r X sc Wx _ k tk h4) n1 (star_of hs.1) (any_star hs.2)) imp_call
    · cases h
theorem so_blt {f : Bf} {r : IA} (hO_r : SoO ce C fn N r) : SoE ce C fn N (.blt f r) := so_of rfl rfl fun X sc Wx a k tk h => by
    simp only [chB, CB.of] at h
    split at h
    · simp only [Bool.and_eq_true, decide_eq_true_eq] at h
      obtain ⟨⟨h1, h2⟩, h3⟩ := h
      exact PE.imp (bu_any k h1 h2 (hO_r X sc Wx _ k tk h3) (chA_star h3)) imp_blt
    · cases h
theorem so_pop {i : Nat} {x : IE} (h_x : SoE ce C fn N x) : SoE ce C fn N (.pop i x) := so_of rfl rfl fun X sc Wx a k tk h => by
    simp only [chB, CB.of] at h
    split at h
    · simp only [Bool.and_eq_true, decide_eq_true_eq] at h
      obtain ⟨⟨⟨⟨⟨⟨h1, h2⟩, h3⟩, rfl⟩, h5⟩, h6⟩, h7⟩ := h
      obtain ⟨n1, n2, _⟩ := names_of h3
      have hs := star_of (es := []) (env := X.env) h6
      refine PE.imp (pe_bm PySem.F.plainAttrs_list PySem.F.slot_list_pop PySem.F.type_list_pop mt_popAt (pe_var (by rw [k.hN]; exact h1) (k.sv _ h2) n1 n2) (pa_cons ((h_x X sc Wx _ k tk).1 h5) pa_nil hs) rfl ?_ h7 hs rfl) imp_pop
      rw [hs]; rfl
    · cases h
theorem so_setLen {x : IE} (h_x : SoE ce C fn N x) : SoE ce C fn N (.setLen x) := so_of rfl rfl fun X sc Wx a k tk h => by
    simp only [chB, CB.of] at h
    split at h
    · simp only [Bool.and_eq_true, decide_eq_true_eq] at h
      obtain ⟨⟨⟨⟨⟨rfl, h2⟩, rfl⟩, h4⟩, h5⟩, h6⟩ := h
      exact PE.imp (pe_lenW k.calm (k.sg _ h2) (k.bn _ (by decide +kernel)) (k.sg _ h4) (k.bn _ (by decide +kernel)) (soO k h5 ((h_x X sc Wx _ k tk).1 h5)) (star_of h6)) imp_setLen
    · cases h
theorem tn_boot : ∀ t : Tn, bootBuiltins (tnName t) = some (.type (tnS t)) ∧ tnName t ∈ bNames ∧ tnName t ≠ "__name__" ∧ (tnName t == ("__debug__" : Str)) = false
  | .tuple => by decide +kernel
  | .list => by decide +kernel
  | .str => by decide +kernel
  | .int => by decide +kernel
  | .bool => by decide +kernel
theorem so_isT {x : IE} {t : Tn} (h_x : SoE ce C fn N x) : SoE ce C fn N (.isT x t) := so_of rfl rfl fun X sc Wx a k tk h => by
    simp only [chB, CB.of] at h
    split at h
    · rename_i pos
      simp only [Bool.and_eq_true, decide_eq_true_eq] at h
      obtain ⟨⟨⟨⟨⟨rfl, h2⟩, h3⟩, h4⟩, rfl⟩, h6⟩ := h
      obtain ⟨b1, b2, b3, b4⟩ := tn_boot t
      refine PE.imp (pe_callB call_isi (k.sg _ h2) (k.bn _ (by decide +kernel)) (by decide +kernel) (pa_cons (soO k h3 ((h_x X sc Wx _ k tk).1 h3)) (pa_cons (pe_tyName (k.sg _ h6) (k.bn _ b2) b1 b3 b4) pa_nil rfl) (star_of h4)) (by decide +kernel) (by decide +kernel) (star_of h4) ?_) imp_isT
      exact any_star rfl
    · cases h
theorem so_comp {elt : IE} {g : TgI} {src : SI} {cond : IE} {has : Bool} (h_elt : SoE ce C fn N elt) (hI_src : SoI ce C fn N src) (h_cond : SoE ce C fn N cond) : SoE ce C fn N (.comp elt g src cond has) := so_of rfl rfl fun X sc Wx a k tk h => by
    simp only [chB, CB.of] at h
    split at h
    · rename_i e tg it ifs kk scope pos
      simp only [Bool.and_eq_true, decide_eq_true_eq] at h
      obtain ⟨⟨⟨⟨⟨⟨⟨rfl, h2⟩, h3⟩, h4⟩, h5⟩, h6⟩, h7⟩, h8⟩ := h
      have blk := blkOk_by h5
      have blk' : BlkOk X.N X.env.scope scope (ckOwn N g) := by
        rw [k.hN]
        exact ⟨blk.kind, blk.uniq, blk.ix, fun y hy e => k.sf _ (blk.free y hy e), blk.own⟩
      have r := pe_lc (X := X) (elt := e) (tg := tg) (iter := it) (ifs := ifs) (scope := scope) (own := ckOwn N g) (pos := pos) k.calm (by rw [k.hN]; exact k.nd) (hI_src X sc Wx tg it k tk h2) blk'
        (fun s H c cl fp => tg_chk (X := X.blk s H scope (compEnvC scope cl c X.env) fp) k.blk h4) (g := gOf X.K g) (tt := tCond X.K ce C cond has) (te := tI X.K ce (fun _ _ _ _ => False) (evB C elt).v) (fun s H c cl fp => ?_) (fun s H c cl fp => (h_elt (X.blk s H scope (compEnvC scope cl c X.env) fp) scope (fun _ _ _ _ => False) e k.blk takes0).1 h8) (fold_of h3)
      · rw [h6] at r
        exact PE.imp r imp_comp
      · cases has with
        | true =>
          match ifs, h7 with
          | [], h7 => exact (Bool.false_ne_true h7).elim
          | [d], h7 => exact pts_one ((h_cond (X.blk s H scope (compEnvC scope cl c X.env) fp) scope (fun _ _ _ _ => False) _ k.blk takes0).2 h7)
          | _ :: _ :: _, h7 => exact (Bool.false_ne_true h7).elim
        | false =>
          match ifs, h7 with
          | [], h7 => exact pts_nil
          | _ :: _, h7 => exact (Bool.false_ne_true h7).elim
    · cases h
theorem so_nref {x : IE} (h_x : SoE ce C fn N x) : SoE ce C fn N (.nref x) := so_of rfl rfl fun X sc Wx a k tk h => PE.imp ((h_x X sc Wx a k tk).1 h) imp_nref
theorem so_idxOf {x y : IE} (h_x : SoE ce C fn N x) (h_y : SoE ce C fn N y) : SoE ce C fn N (.idxOf x y) := so_of rfl rfl fun X sc Wx a k tk h => by
    simp only [chB, CB.of] at h
    split at h
    · rename_i o m ap y' cp
      simp only [Bool.and_eq_true, decide_eq_true_eq] at h
      obtain ⟨⟨⟨⟨⟨rfl, h2⟩, h3⟩, h4⟩, h5⟩, h6⟩ := h
      have hs := star_of (es := []) (env := X.env) h5
      refine PE.imp (pe_bm PySem.F.plainAttrs_list PySem.F.slot_list_index PySem.F.type_list_index mt_index (soO k h2 ((h_x X sc Wx _ k tk).1 h2)) (pa_cons (soO k h4 ((h_y X sc Wx _ k tk).1 h4)) pa_nil hs) (base_of h3) ?_ h6 hs rfl) (imp_meth1 RT.lstTy idxOf_r)
      rw [hs]; rfl
    · cases h
theorem sa_nil : SoA ce C fn N .nil := fun X sc Wx es k tk h => by
  cases es with
  | nil => exact PA.imp pa_nil imp_anil
  | cons _ _ => exact (Bool.false_ne_true h).elim
theorem sa_cons {e : IE} {r : IA} (he : SoE ce C fn N e) (hr : SoA ce C fn N r) : SoA ce C fn N (.cons e r) := fun X sc Wx es k tk h => by
  cases es with
  | nil => exact (Bool.false_ne_true h).elim
  | cons x xs =>
    rw [chA] at h
    simp only [Bool.and_eq_true] at h
    exact PA.imp (pa_cons ((he X sc Wx x k tk).1 h.1.1) (hr X sc Wx xs k tk h.2) (star_of h.1.2)) imp_acons
theorem sos_nil : SoO ce C fn N .nil := fun X sc Wx es k tk h => by
  cases es with
  | nil => exact PA.imp pa_nil imp_onil
  | cons _ _ => exact (Bool.false_ne_true h).elim
theorem sos_cons {e : IE} {r : IA} (he : SoE ce C fn N e) (hr : SoO ce C fn N r) : SoO ce C fn N (.cons e r) := fun X sc Wx es k tk h => by
  cases es with
  | nil => exact (Bool.false_ne_true h).elim
  | cons x xs =>
    rw [chA] at h
    simp only [Bool.and_eq_true] at h
    exact PA.imp (pa_cons (soO k h.1.1 ((he X sc Wx x k tk).1 h.1.1)) (hr X sc Wx xs k tk h.2) (star_of h.1.2)) imp_ocons
theorem si_seq {e : IE} (he : SoE ce C fn N e) : SoI ce C fn N (.seq e) := fun X sc Wx tg a k tk h => by
  unfold chI at h
  exact PI.imp (pi_seq ((he X sc Wx a k tk).1 h)) imp_seq
theorem si_rng {e : IE} (he : SoE ce C fn N e) : SoI ce C fn N (.rng e) := fun X sc Wx tg a k tk h => by
  unfold chI at h
  split at h
  · simp only [Bool.and_eq_true, decide_eq_true_eq] at h
    obtain ⟨⟨⟨rfl, h2⟩, h3⟩, h4⟩ := h
    have hs := star_of (es := []) (env := X.env) h4
    exact PI.imp (pi_range1 (k.sg _ h2) (k.bn _ (by decide +kernel)) (pa_cons ((he X sc Wx _ k tk).1 h3) pa_nil hs) hs) imp_rng
  · cases h
theorem si_enm {e : IE} (he : SoE ce C fn N e) : SoI ce C fn N (.enm e) := fun X sc Wx tg a k tk h => by
  unfold chI at h
  split at h
  · simp only [Bool.and_eq_true, decide_eq_true_eq] at h
    obtain ⟨⟨⟨⟨rfl, h2⟩, h3⟩, h4⟩, h5⟩ := h
    have hs := star_of (es := []) (env := X.env) h4
    cases tg with
    | Tuple es kk tpos => exact PI.imp (pi_en (k.sg _ h2) (k.bn _ (by decide +kernel)) (pa_cons ((he X sc Wx _ k tk).1 h3) pa_nil hs) hs) imp_enm
    | _ => cases h5
  · cases h
mutual
theorem so : ∀ e : IE, SoE ce C fn N e
  | .var i => so_var 
  | .non => so_non 
  | .bl b => so_bl 
  | .int i => so_int 
  | .str s => so_str 
  | .tup r => so_tup (soA r)
  | .lst r => so_lst (soA r)
  | .bin o x y => so_bin (so x) (so y)
  | .cmp o x y => so_cmp (so x) (so y)
  | .andE x y => so_andE (so x) (so y)
  | .orE x y => so_orE (so x) (so y)
  | .notE x => so_notE (so x)
  | .ifE c x y => so_ifE (so c) (so x) (so y)
  | .idx x y => so_idx (so x) (so y)
  | .sfrom x y => so_sfrom (so x) (so y)
  | .upto x y => so_upto (so x) (so y)
  | .cut x y z => so_cut (so x) (so y) (so z)
  | .rev x => so_rev (so x)
  | .call f r => so_call (soA r)
  | .blt f r => so_blt (soOs r)
  | .pop i x => so_pop (so x)
  | .setLen x => so_setLen (so x)
  | .isT x t => so_isT (so x)
  | .comp elt g src cond has => so_comp (so elt) (soI src) (so cond)
  | .nref x => so_nref (so x)
  | .idxOf x y => so_idxOf (so x) (so y)
theorem soA : ∀ r : IA, SoA ce C fn N r
  | .nil => sa_nil
  | .cons e r => sa_cons (so e) (soA r)
theorem soOs : ∀ r : IA, SoO ce C fn N r
  | .nil => sos_nil
  | .cons e r => sos_cons (so e) (soOs r)
theorem soI : ∀ r : SI, SoI ce C fn N r
  | .seq e => si_seq (so e)
  | .rng e => si_rng (so e)
  | .enm e => si_enm (so e)
end
end
end LL

set_option Elab.async false
set_option linter.all false
set_option maxRecDepth 100000
set_option maxHeartbeats 4000000
/-! LLk: statements. -/
namespace LL
open PySem L2
variable [Cs]

/-- where one looks back to -/
structure Bs where
  φ : List Addr
  Z : Addr → Prop
  B : Addr → Prop
  H : Hp
  hn : ∀ a, H a = none → B a
structure S0 (K : PySem.W.Frag) (b : Bs) (φ : List Addr) (st : ST) (σ : St) (H : Hp) : Prop where
  rel : Rel K φ b.Z st σ H
  ext : Ext b.φ b.B b.H φ H
  own : ∀ a, OE st.env σ a → b.B a
/-- what a return hands out -/
def RetR (K : PySem.W.Frag) (b : Bs) (φ : List Addr) (H : Hp) (S : List SO) (r : RV) (v : V) : Prop :=
  Ext b.φ b.B b.H φ H ∧ match r with
    | .v w => RelS K φ b.Z H S ∧ Rep K φ b.Z H w v
    | .f k ws => ∃ p vs, v = .ref p ∧ b.B p ∧ p ∉ φ ∧ ¬ b.Z p ∧ At H p k vs ∧ RelS K φ (fun a => b.Z a ∨ a = p) H S ∧ Reps K φ (fun a => b.Z a ∨ a = p) H ws vs
section
variable (K : PySem.W.Frag) (ce : Nat → Option Addr) (Wx : WX)
def OutS (b : Bs) (r : RS) (D : Ends) : Prop := match r with
  | .nx st => ∀ φ σ H, S0 K b φ st σ H → D.nx σ H
  | .brk st => ∀ φ σ H, S0 K b φ st σ H → D.bk σ H
  | .cnt st => ∀ φ σ H, S0 K b φ st σ H → D.ct σ H
  | .ret r S => ∀ φ H v, RetR K b φ H S r v → D.rt v H
  | .exn c fs st => ∀ φ σ H cls d, S0 K b φ st σ H → ExnR K ce φ (AV b.Z st.env σ) H c fs cls d → Wx cls d σ H
  | .bad => False
def tIS (m : ST → RS) : TS := fun D σ H => ∃ b φ st, S0 K b φ st σ H ∧ OutS K ce Wx b (m st) D
end
section
variable {K : PySem.W.Frag} {ce : Nat → Option Addr} {Wx : WX} {b : Bs} {φ φ1 : List Addr} {st st1 : ST} {σ : St} {H H1 : Hp} {D : Ends}
theorem S0.step (s : S0 K b φ st σ H) (t : Step φ st σ H φ1 st1 H1) (r : Rel K φ1 b.Z st1 σ H1) : S0 K b φ1 st1 σ H1 :=
  ⟨r, s.ext.trans t.ext s.own, fun a h => s.own a (t.own a h)⟩
/-- a statement's expression -/
theorem out_of {α : Type} {m : R α} {g : α → ST → RS} {P : List Addr → (Addr → Prop) → ST → Hp → α → Prop} (s : S0 K b φ st σ H) (o : OutS K ce Wx b (RS.of m g) D)
    (k : ∀ a st1 φ1 H1, m = .ok a st1 → Step φ st σ H φ1 st1 H1 → OutS K ce Wx b (g a st1) D → P φ1 b.Z st1 H1 a) : Out K ce Wx P φ b.Z st σ H m := by
  cases m with
  | bad => exact o
  | exn c fs st' => exact fun φ' H' cls d t r x => o φ' σ H' cls d (s.step t r) x
  | ok a st1 => exact fun φ' H' t => k a st1 φ' H' rfl t o
/-- looking back to a loop's beginning -/
def Bs.at (b : Bs) (φ1 : List Addr) (env1 : Env') (σ1 : St) (H1 : Hp) : Bs := ⟨φ1, b.Z, fun a => OE env1 σ1 a ∨ H1 a = none, H1, fun _ h => .inr h⟩
theorem back (s : S0 K b φ st σ H) : ∀ a, (OE st.env σ a ∨ H a = none) → b.B a := fun a z => z.elim (s.own a) fun h => b.hn a (Dm.none s.ext.dom h)
theorem S0.up {φ' st' σ' H'} (s : S0 K b φ st σ H) (t : S0 K (b.at φ st.env σ H) φ' st' σ' H') : S0 K b φ' st' σ' H' :=
  ⟨t.rel, s.ext.trans t.ext (back s), fun a h => back s a (t.own a h)⟩
theorem RetR.up {φ' H' S r v} (s : S0 K b φ st σ H) (t : RetR K (b.at φ st.env σ H) φ' H' S r v) : RetR K b φ' H' S r v := by
  refine ⟨s.ext.trans t.1 (back s), ?_⟩
  cases r with
  | v w => exact t.2
  | f k ws =>
    obtain ⟨p, vs, e, hb, q⟩ := t.2
    exact ⟨p, vs, e, back s p hb, q⟩
theorem S0.here (s : S0 K b φ st σ H) : S0 K (b.at φ st.env σ H) φ st σ H := ⟨s.rel, .refl, fun a h => .inl h⟩
/-- a slot gets a value -/
theorem S0.setv {env : Env'} {sto : List SO} {i : Nat} {w : W} {v : V} (s : S0 K b φ ⟨env, sto⟩ σ H) (h : Rep K φ (AV b.Z env σ) H w v) : S0 K b φ ⟨env.set i (some (.val w)), sto⟩ (σ.set i (some v)) H :=
  ⟨s.rel.setv h, s.ext, fun a o => s.own a (OE.patch (set_patch s.rel.len h) a o)⟩
/-- a slot gets a list of its own -/
theorem Rel.seto {Z : Addr → Prop} {env : Env'} {sto : List SO} {i : Nat} {kk : OK} {ws : List W} {p : Addr} {vs : List V} (r : Rel K φ (fun a => Z a ∨ a = p) ⟨env, sto⟩ σ H) (h1 : p ∉ φ) (h2 : ¬ AV Z env σ p) (h3 : At H p kk vs)
    (h5 : Reps K φ (AV (fun a => Z a ∨ a = p) env σ) H ws vs) : Rel K φ Z ⟨env.set i (some (.own kk ws)), sto⟩ (σ.set i (some (.ref p))) H ∧ ∀ a, OE (env.set i (some (.own kk ws))) (σ.set i (some (.ref p))) a → OE env σ a ∨ a = p := by
  have hl : env.length = σ.length := r.len
  have oe : ∀ a, OE (env.set i (some (.own kk ws))) (σ.set i (some (.ref p))) a → OE env σ a ∨ a = p := fun a ⟨j, k1, us, q1, q2⟩ => by
    by_cases hj : i = j
    · subst hj
      have hi : i < σ.length := by
        have := (List.getElem?_eq_some_iff.mp q2).1
        simpa using this
      rw [List.getElem?_set_self hi] at q2
      cases q2
      exact .inr rfl
    · rw [List.getElem?_set_ne hj] at q1 q2
      exact .inl ⟨j, k1, us, q1, q2⟩
  have av : ∀ a, AV Z (env.set i (some (.own kk ws))) (σ.set i (some (.ref p))) a → AV (fun a => Z a ∨ a = p) env σ a := fun a z => by
    rcases z with z | z
    · exact .inl (.inl z)
    · rcases oe a z with z | z
      · exact .inr z
      · exact .inl (.inr z)
  refine ⟨⟨r.sto.anti av, by rw [List.length_set, List.length_set]; exact hl, fun j s q => ?_, fun j k k1 k2 us us' a q1 q2 q3 q4 => ?_, fun a z zz => ?_, fun a z => r.zd a (.inl z)⟩, oe⟩
  · by_cases hj : i = j
    · subst hj
      have hi : i < env.length := by
        have := (List.getElem?_eq_some_iff.mp q).1
        simpa using this
      rw [List.getElem?_set_self hi] at q
      cases q
      exact ⟨_, List.getElem?_set_self (by rw [← hl]; exact hi), p, vs, rfl, h1, h3, h5.anti av⟩
    · rw [List.getElem?_set_ne hj] at q
      obtain ⟨v, e, sl⟩ := r.env j s q
      exact ⟨v, by rw [List.getElem?_set_ne hj]; exact e, sl.anti av⟩
  · by_cases hj : i = j
    · by_cases hk : i = k
      · exact hj.symm.trans hk
      · subst hj
        rw [List.getElem?_set_ne hk] at q2 q4
        have hi : i < σ.length := by
          have := (List.getElem?_eq_some_iff.mp q3).1
          simpa using this
        rw [List.getElem?_set_self hi] at q3
        cases q3
        exact (h2 (.inr ⟨k, k2, us', q2, q4⟩)).elim
    · by_cases hk : i = k
      · subst hk
        rw [List.getElem?_set_ne hj] at q1 q3
        have hi : i < σ.length := by
          have := (List.getElem?_eq_some_iff.mp q4).1
          simpa using this
        rw [List.getElem?_set_self hi] at q4
        cases q4
        exact (h2 (.inr ⟨j, k1, us, q1, q3⟩)).elim
      · rw [List.getElem?_set_ne hj] at q1 q3
        rw [List.getElem?_set_ne hk] at q2 q4
        exact r.dis j k k1 k2 us us' a q1 q2 q3 q4
  · rcases oe a z with z | z
    · exact r.hid a z (.inl zz)
    · subst z
      exact h2 (.inl zz)
theorem S0.setr {env : Env'} {sto : List SO} {i : Nat} {rv : RV} {v : V} {B : Hp} (s : S0 K b φ ⟨env, sto⟩ σ H) (dm : Dm b.H B) (h : RRep K B φ b.Z ⟨env, sto⟩ σ H rv v) : S0 K b φ ⟨env.set i (some (slOf rv)), sto⟩ (σ.set i (some v)) H := by
  cases rv with
  | v w => exact s.setv h.2
  | f k ws =>
    obtain ⟨p, vs, rfl, h0, h1, h2, h3, h5, h6⟩ := h
    obtain ⟨r, oe⟩ := Rel.seto (i := i) h5 h1 h2 h3 h6
    refine ⟨r, s.ext, fun a z => ?_⟩
    rcases oe a z with z | z
    · exact s.own a z
    · rw [z]; exact b.hn p (dm.none h0)
end
end LL

set_option Elab.async false
set_option linter.all false
set_option maxRecDepth 100000
set_option maxHeartbeats 4000000
/-! LLl: the constructs of statements. -/
namespace LL
open PySem L2
variable [Cs]
section
variable {K : PySem.W.Frag} {ce : Nat → Option Addr} {Wx : WX} {C : CT}
theorem st_asg {i : Nat} {e : IE} : ∀ D σ H, tIS K ce Wx (evS C (.asg i e)) D σ H → tAsg (tI K ce Wx (evB C e).v) (gName i) D σ H := by
  rintro D σ H ⟨b, φ, st, s, o⟩
  simp only [evS, ev] at o
  exact ⟨φ, b.Z, st, s.rel, out_of s o fun r st1 φ1 H1 e1 t o1 v rr => o1 φ1 _ H1 ((s.step t (rr.val).1).setr (env := st1.env) (sto := st1.sto) s.ext.dom rr)⟩
theorem st_ex {e : IE} : ∀ D σ H, tIS K ce Wx (evS C (.ex e)) D σ H → tDrop (tI K ce Wx (evB C e).v) D σ H := by
  rintro D σ H ⟨b, φ, st, s, o⟩
  simp only [evS, ev] at o
  exact ⟨φ, b.Z, st, s.rel, out_of s o fun r st1 φ1 H1 e1 t o1 v rr => o1 φ1 _ H1 (s.step t (rr.val).1)⟩
theorem st_unp {l : List Nat} {e : IE} : ∀ D σ H, tIS K ce Wx (evS C (.unp l e)) D σ H → tAsg (tI K ce Wx (evB C e).v) (gOf K (.tp l)) D σ H := by
  rintro D σ H ⟨b, φ, st, s, o⟩
  simp only [evS, ev] at o
  refine ⟨φ, b.Z, st, s.rel, out_of s o fun r st1 φ1 H1 e1 t o1 v rr => ?_⟩
  obtain ⟨rel1, rep1⟩ := rr.val
  have s1 := s.step t rel1
  cases hs : setT (.tp l) r.w st1.env with
  | none => rw [hs] at o1; exact o1.elim
  | some env =>
    rw [hs] at o1
    exact tg_ok (env := st1.env) (sto := st1.sto) rel1 rep1 hs fun σ2 r2 oe _ _ => o1 φ1 σ2 H1 ⟨r2, s1.ext, fun a z => s1.own a (oe a z)⟩
theorem st_if {c : IE} {x y : IB} : ∀ D σ H, tIS K ce Wx (evS C (.ifS c x y)) D σ H → tIfS (tTst K ce Wx (evB C c).t) (tIS K ce Wx (evSs C x)) (tIS K ce Wx (evSs C y)) D σ H := by
  rintro D σ H ⟨b, φ, st, s, o⟩
  simp only [evS, evT] at o
  refine ⟨φ, b.Z, st, s.rel, out_of s o fun k st1 φ1 H1 e1 t o1 rel1 => ?_⟩
  have s1 := s.step t rel1
  cases k with
  | true => exact iteT ⟨b, φ1, st1, s1, o1⟩
  | false => exact iteF ⟨b, φ1, st1, s1, o1⟩
theorem st_retv {e : IE} (he : ∀ i, e ≠ .var i) : ∀ D σ H, tIS K ce Wx (evS C (.ret e)) D σ H → tRet (tI K ce Wx (evB C e).v) D σ H := by
  rintro D σ H ⟨b, φ, st, s, o⟩
  have eo : evS C (.ret e) st = RS.of (ev C e st) fun r st => .ret r st.sto := by
    cases e <;> first | rfl | exact (he _ rfl).elim
  rw [eo] at o
  simp only [ev] at o
  refine ⟨φ, b.Z, st, s.rel, out_of s o fun r st1 φ1 H1 e1 t o1 v rr => ?_⟩
  have s1 := s.step t rr.val.1
  refine o1 φ1 H1 v ⟨s1.ext, ?_⟩
  have lz : ∀ a, b.Z a → AV b.Z st1.env σ a := fun a z => .inl z
  cases r with
  | v w => exact ⟨rr.1.sto.anti lz, rr.2.anti lz⟩
  | f k ws =>
    obtain ⟨p, vs, rfl, h0, h1, h2, h3, h5, h6⟩ := rr
    exact ⟨p, vs, rfl, b.hn p (Dm.none s.ext.dom h0), h1, fun z => h2 (.inl z), h3, h5.sto.anti fun a z => .inl z, h6.anti fun a z => .inl z⟩
theorem st_retx {i : Nat} : ∀ D σ H, tIS K ce Wx (evS C (.ret (.var i))) D σ H → tRet (tVar i) D σ H := by
  rintro D σ H ⟨b, φ, st, s, o⟩
  simp only [evS] at o
  have lz : ∀ a, b.Z a → AV b.Z st.env σ a := fun a z => .inl z
  cases e : st.env[i]? with
  | none => simp only [e] at o; exact o.elim
  | some sl =>
    cases sl with
    | none => simp only [e] at o; exact o.elim
    | some sl =>
      cases sl with
      | val w =>
        simp only [e] at o
        obtain ⟨v, e1, u, rfl, q⟩ := s.rel.env i _ e
        exact ⟨u, e1, o φ H u ⟨s.ext, s.rel.sto.anti lz, q.anti lz⟩⟩
      | own k ws =>
        simp only [e] at o
        obtain ⟨a, vs, e1, n, h, r⟩ := slot_own s.rel e
        have oe : OE st.env σ a := ⟨i, k, ws, e, e1⟩
        have av : ∀ x, (b.Z x ∨ x = a) → AV b.Z st.env σ x := fun x z => z.elim .inl fun q => .inr (by rw [q]; exact oe)
        exact ⟨_, e1, o φ H _ ⟨s.ext, a, vs, rfl, s.own a oe, n, s.rel.hid a oe, h, s.rel.sto.anti av, r.anti av⟩⟩
theorem st_retN : ∀ D σ H, tIS K ce Wx (evS C .retN) D σ H → tRetN D σ H := by
  rintro D σ H ⟨b, φ, st, s, o⟩
  simp only [evS] at o
  have lz : ∀ a, b.Z a → AV b.Z st.env σ a := fun a z => .inl z
  exact o φ H .non ⟨s.ext, s.rel.sto.anti lz, rep_non.mpr rfl⟩
theorem st_pass : ∀ D σ H, tIS K ce Wx (evS C .pass) D σ H → tNext D σ H := by
  rintro D σ H ⟨b, φ, st, s, o⟩
  simp only [evS] at o
  exact o φ σ H s
theorem st_brk : ∀ D σ H, tIS K ce Wx (evS C .brk) D σ H → tBreak D σ H := by
  rintro D σ H ⟨b, φ, st, s, o⟩
  simp only [evS] at o
  exact o φ σ H s
theorem st_cnt : ∀ D σ H, tIS K ce Wx (evS C .cnt) D σ H → tCont D σ H := by
  rintro D σ H ⟨b, φ, st, s, o⟩
  simp only [evS] at o
  exact o φ σ H s
theorem st_nvr : ∀ D σ H, tIS K ce Wx (evS C .nvr) D σ H → tNever D σ H := by
  rintro D σ H ⟨b, φ, st, s, o⟩
  simp only [evS] at o
  exact o
theorem st_nil : ∀ D σ H, tIS K ce Wx (evSs C .nil) D σ H → tNext D σ H := by
  rintro D σ H ⟨b, φ, st, s, o⟩
  simp only [evSs] at o
  exact o φ σ H s
theorem st_cons {x : IS} {r : IB} : ∀ D σ H, tIS K ce Wx (evSs C (.cons x r)) D σ H → tSeq (tIS K ce Wx (evS C x)) (tIS K ce Wx (evSs C r)) D σ H := by
  rintro D σ H ⟨b, φ, st, s, o⟩
  simp only [evSs] at o
  refine ⟨b, φ, st, s, ?_⟩
  cases hx : evS C x st with
  | nx st1 =>
    rw [hx] at o
    exact fun φ1 σ1 H1 s1 => ⟨b, φ1, st1, s1, o⟩
  | brk st1 => rw [hx] at o; exact o
  | cnt st1 => rw [hx] at o; exact o
  | ret r S => rw [hx] at o; exact o
  | exn c fs st1 => rw [hx] at o; exact o
  | bad => rw [hx] at o; exact o
/-- the one statement of a block -/
theorem st_single {x : IS} : ∀ D σ H, tIS K ce Wx (evSs C (.cons x .nil)) D σ H → tIS K ce Wx (evS C x) D σ H := by
  rintro D σ H ⟨b, φ, st, s, o⟩
  simp only [evSs] at o
  refine ⟨b, φ, st, s, ?_⟩
  cases hx : evS C x st with
  | nx st1 => rw [hx] at o; exact o
  | brk st1 => rw [hx] at o; exact o
  | cnt st1 => rw [hx] at o; exact o
  | ret r S => rw [hx] at o; exact o
  | exn c fs st1 => rw [hx] at o; exact o
  | bad => rw [hx] at o; exact o
theorem st_app {i : Nat} {e : IE} : ∀ D σ H, tIS K ce Wx (evS C (.app i e)) D σ H → tDrop (tBM K "list" rAppend (tVar i) (tCons (tI K ce Wx (evB C e).v) tNil)) D σ H := by
  rintro D σ H ⟨b, φ, st, s, o⟩
  simp only [evS, ev] at o
  split at o
  · rename_i ws0 e0
    obtain ⟨a, vs0, es, n0, h0, r0⟩ := slot_own s.rel e0
    refine ⟨_, es, .inl ⟨rfl, _, .of h0.lst.1⟩, φ, b.Z, st, s.rel, out_of s o fun r st1 φ1 H1 e1 t o1 v1 rr => ?_⟩
    obtain ⟨rel1, rep1⟩ := rr.val
    have s1 := s.step t rel1
    split at o1
    · rename_i ws ee
      obtain ⟨a', vs, es', n1, h1A, r1⟩ := slot_own rel1 ee
      obtain ⟨h1, z1⟩ := h1A.lst
      rw [es] at es'; cases es'
      split at o1
      · rename_i hz
        have hz' : vs.length + 1 ≤ sizeLine := by rw [r1.length]; exact of_decide_eq_true hz
        refine ⟨a, vs, v1, rfl, rfl, h1, hz', ?_⟩
        obtain ⟨rel2, t2⟩ := rel1.mut ee es h1A (r1.append (.cons rep1 .nil)) (o := .lst (vs ++ [v1])) (k' := .lst) rfl (by rw [List.length_append]; exact hz')
        exact o1 φ1 σ _ (s1.step t2 rel2)
      · exact o1.elim
    · exact o1.elim
  · rename_i n0 e0
    split at o
    · rename_i ws0 eso0
      obtain ⟨v0, es0, u0, hu0, rr0⟩ := s.rel.env i _ e0
      subst hu0
      obtain ⟨a, ea, rfl⟩ := rep_ref.mp rr0
      obtain ⟨xs0, obj0, _⟩ := s.rel.sto.obj n0 a _ ea eso0
      refine ⟨_, es0, .inl ⟨rfl, _, .of obj0.lst.1⟩, φ, b.Z, st, s.rel, out_of s o fun r st1 φ1 H1 e1 t o1 v1 rr => ?_⟩
      obtain ⟨rel1, rep1⟩ := rr.val
      have s1 := s.step t rel1
      split at o1
      · rename_i n ee
        obtain ⟨v2, es2, u2, hu2, rr2⟩ := rel1.env i _ ee
        subst hu2
        rw [es0] at es2; cases es2
        obtain ⟨a2, ea2, hv2⟩ := rep_ref.mp rr2
        cases hv2
        split at o1
        · rename_i ws hso
          obtain ⟨vs, h1A, r1⟩ := rel1.sto.obj n _ _ ea2 hso
          obtain ⟨h1, z1⟩ := h1A.lst
          split at o1
          · rename_i hz
            have hz' : vs.length + 1 ≤ sizeLine := by rw [r1.length]; exact of_decide_eq_true hz
            refine ⟨_, vs, v1, rfl, rfl, h1, hz', ?_⟩
            obtain ⟨rel2, t2⟩ := rel1.mutS ea2 hso (r1.append (.cons rep1 .nil)) (o := .lst (vs ++ [v1])) (k' := .lst) rfl (by rw [List.length_append]; exact hz')
            exact o1 φ1 σ _ (s1.step t2 rel2)
          · exact o1.elim
        · exact o1.elim
      · exact o1.elim
    · exact o.elim
  · exact o.elim
theorem st_setI {eo ek e : IE} : ∀ D σ H, tIS K ce Wx (evS C (.setI eo ek e)) D σ H → tAsg (tI K ce Wx (evB C e).v) (gSub (tO K ce Wx (opd eo (evB C eo).v)) (tO K ce Wx (opd ek (evB C ek).v)) rSetL) D σ H := by
  rintro D σ H ⟨b, φ, st, s, o⟩
  simp only [evS] at o
  refine ⟨φ, b.Z, st, s.rel, out_of s o fun r st1 φ1 H1 e1 t1 o1 v1 rr => ?_⟩
  obtain ⟨rel1, rep1⟩ := rr.val
  have s1 := s.step t1 rel1
  refine ⟨φ1, b.Z, st1, rel1, out_of s1 o1 fun x st2 φ2 H2 e2 t2 o2 rel2 v2 ov2 => ?_⟩
  have s2 := s1.step t2 rel2
  refine ⟨φ2, b.Z, st2, rel2, out_of s2 o2 fun y st3 φ3 H3 e3 t3 o3 rel3 v3 ov3 => ?_⟩
  have s3 := s2.step t3 rel3
  split at o3
  · rename_i n j d1 d2
    have w1 := (ov2.step t3).top rel3 d1
    have w2 := ov3.top rel3 d2
    rcases w1 with w1 | ⟨_, _, _, _, w1, _⟩
    · obtain ⟨a, ea, rfl⟩ := rep_ref.mp w1
      split at o3
      · rename_i ws hso
        obtain ⟨vs, h1A, r1⟩ := rel3.sto.obj n _ _ ea hso
        obtain ⟨h1, z1⟩ := h1A.lst
        cases hk : ixN ws.length j with
        | none => simp only [hk] at o3; exact o3.elim
        | some q =>
          simp only [hk] at o3
          refine ⟨a, vs, j, q, rfl, w2.int, h1, by rw [r1.length]; exact hk, ?_⟩
          obtain ⟨rel4, t4⟩ := rel3.mutS ea hso (r1.set q ((t2.trans t3).rep rep1)) (o := .lst (vs.set q v1)) (k' := .lst) rfl (by rw [List.length_set]; exact z1)
          exact o3 φ3 σ _ (s3.step t4 rel4)
      · exact o3.elim
    · cases w1
  · exact o3.elim
/-! ### loops -/
theorem st_whl {c : IE} {x : IB} : ∀ D σ H, tIS K ce Wx (evS C (.whl c x)) D σ H → tWhile (tTst K ce Wx (evB C c).t) (tIS K ce Wx (evSs C x)) D σ H := by
  rintro D σ H ⟨b, φ, st, s, o⟩
  simp only [evS, evT] at o
  refine ⟨fun m σ' H' => ∃ φ' ste, S0 K b φ' ste σ' H' ∧ OutS K ce Wx b (whileL (evB C c).t (evSs C x) m ste) D, ⟨FU, φ, st, s, o⟩, ?_⟩
  rintro m σ' H' ⟨φ', ste, se, oe⟩
  cases m with
  | zero => exact oe.elim
  | succ m =>
    unfold whileL at oe
    refine ⟨φ', b.Z, ste, se.rel, out_of se oe fun k st1 φ1 H1 e1 t o1 rel1 => ?_⟩
    have s1 := se.step t rel1
    cases k with
    | false => exact iteF (o1 φ1 σ' H1 s1)
    | true =>
      refine iteT ⟨fun σ2 H2 => ∃ m', m' < m + 1 ∧ ∃ φ' ste, S0 K b φ' ste σ2 H2 ∧ OutS K ce Wx b (whileL (evB C c).t (evSs C x) m' ste) D, fun σ2 H2 h => h, b, φ1, st1, s1, ?_⟩
      rw [if_pos rfl] at o1
      cases hb : evSs C x st1 with
      | nx st2 => rw [hb] at o1; exact fun φ2 σ2 H2 s2 => ⟨m, Nat.lt_succ_self m, φ2, st2, s2, o1⟩
      | cnt st2 => rw [hb] at o1; exact fun φ2 σ2 H2 s2 => ⟨m, Nat.lt_succ_self m, φ2, st2, s2, o1⟩
      | brk st2 => rw [hb] at o1; exact o1
      | ret r S => rw [hb] at o1; exact o1
      | exn c fs st2 => rw [hb] at o1; exact o1
      | bad => rw [hb] at o1; exact o1
/-- one turn of a for -/
def fStep (C : CT) (g : TgI) (x : IB) (w : W) (st : ST) : RS := stepF g (evSs C x) w st
theorem forS_eq {g : TgI} {src : SI} {x : IB} {st : ST} : evS C (.forS g src x) st = RS.of (evI C src st) fun xs st => forL (fStep C g x) xs st := by
  rw [evS]; rfl
theorem st_for {g : TgI} {src : SI} {x : IB} : ∀ D σ H, tIS K ce Wx (evS C (.forS g src x)) D σ H → tFor (tSI K ce Wx (evI C src)) (gOf K g) (tIS K ce Wx (evSs C x)) D σ H := by
  rintro D σ H ⟨b, φ, st, s, o⟩
  rw [forS_eq] at o
  refine ⟨φ, b.Z, st, s.rel, out_of s o fun xs st1 φ1 H1 e1 t o1 rel1 J itw => ?_⟩
  have s1 := s.step t rel1
  obtain ⟨G, Y, wk, hzl, hG, hY⟩ := itw
  let b1 := b.at φ1 st1.env σ H1
  have b1ok : ∀ a, b1.B a → AV b.Z st1.env σ a ∨ H1 a = none := fun a z => z.elim (fun z => .inl (.inr z)) .inr
  -- the walk's own condition
  have hG' : ∀ {φ' H'}, Ext φ1 b1.B H1 φ' H' → G H' := fun {φ' H'} e =>
    hG φ' (AV b.Z st1.env σ) H' ⟨e.pre, e.new, e.dom, e.tup, e.mrk, fun a o h n na => e.frm a o h n fun z => (b1ok a z).elim na fun q => by rw [h] at q; cases q⟩ fun _ z => z
  refine for_it wk (fun i σ' H' => ∃ φ' ste, S0 K b1 φ' ste σ' H' ∧ OutS K ce Wx b (forL (fStep C g x) (xs.drop i) ste) D) ⟨φ1, st1, s1.here, o1⟩ ?_ ?_ ?_
  · rintro i σ' H' _ ⟨φ', ste, se, _⟩
    exact hG' se.ext
  · rintro i x' σ' H' H'' hi ⟨φ', ste, se, oe⟩ hy
    obtain ⟨w, hw, yl⟩ := hY i H' x' H'' hi (hG' se.ext) hy
    have hdrop : xs.drop i = w :: xs.drop (i + 1) := by
      obtain ⟨h1, h2⟩ := List.getElem?_eq_some_iff.mp hw
      rw [List.drop_eq_getElem_cons h1, h2]
    rw [hdrop] at oe
    unfold forL fStep stepF at oe
    cases hset : setT g w ste.env with
    | none => rw [hset] at oe; exact oe.elim
    | some env' =>
      rw [hset] at oe
      dsimp only at oe
      have extA : Ext φ1 (AV b.Z st1.env σ) H1 φ' H' := ⟨se.ext.pre, se.ext.new, se.ext.dom, se.ext.tup, se.ext.mrk, fun a o h n na => se.ext.frm a o h n fun z => (b1ok a z).elim na fun q => by rw [h] at q; cases q⟩
      obtain ⟨repx, hpp⟩ := yld_rep yl extA (fun _ z => z) (A' := AV b.Z ste.env σ') fun a z => z.elim (fun z => .inl (.inl z)) fun z => b1ok a (se.own a z)
      have sJ : S0 K b1 φ' ste σ' H'' := by
        rcases hpp with rfl | ⟨p, ob, h0, rfl⟩
        · exact se
        · exact ⟨se.rel.upd h0, se.ext.trans (Ext.upd (B := fun _ => False) h0) fun _ z => z.elim, se.own⟩
      refine tg_ok (env := ste.env) (sto := ste.sto) sJ.rel repx hset fun σ2 r2 oe2 _ _ => ?_
      have s2 : S0 K b1 φ' ⟨env', ste.sto⟩ σ2 H'' := ⟨r2, sJ.ext, fun a z => sJ.own a (oe2 a z)⟩
      refine ⟨b1, φ', ⟨env', ste.sto⟩, s2, ?_⟩
      cases hb : evSs C x ⟨env', ste.sto⟩ with
      | nx st2 => rw [hb] at oe; exact fun φ2 σ2 H2 s2 => ⟨φ2, st2, s2, oe⟩
      | cnt st2 => rw [hb] at oe; exact fun φ2 σ2 H2 s2 => ⟨φ2, st2, s2, oe⟩
      | brk st2 => rw [hb] at oe; exact fun φ2 σ2 H2 s2 => oe φ2 σ2 H2 (s1.up s2)
      | ret r S => rw [hb] at oe; exact fun φ2 H2 v rr => oe φ2 H2 v (RetR.up s1 rr)
      | exn c fs st2 => rw [hb] at oe; exact fun φ2 σ2 H2 cls d s2 xx => oe φ2 σ2 H2 cls d (s1.up s2) xx
      | bad => rw [hb] at oe; exact oe.elim
  · rintro σ' H' ⟨φ', ste, se, oe⟩
    rw [List.drop_length] at oe
    exact oe φ' σ' H' (s1.up se)
/-! ### two names at once -/
/-- both results, then both slots -/
theorem st_par {i j : Nat} {x y : IE} : ∀ D σ H, tIS K ce Wx (evS C (.par i j x y)) D σ H →
    tI K ce Wx (evB C x).v σ H fun v H1 => tI K ce Wx (evB C y).v σ H1 fun w H2 => ∀ H3, (H3 = H2 ∨ ∃ p o, H2 p = none ∧ H3 = upd H2 p o) → D.nx ((σ.set i (some v)).set j (some w)) H3 := by
  rintro D σ H ⟨b, φ, st, s, o⟩
  simp only [evS, ev] at o
  refine ⟨φ, b.Z, st, s.rel, out_of s o fun r st1 φ1 H1 e1 t1 o1 v rr => ?_⟩
  have s1 := s.step t1 rr.val.1
  -- the first result is kept apart while the second is reckoned
  cases r with
  | v w =>
    obtain ⟨rel1, rep1⟩ := rr
    refine ⟨φ1, b.Z, st1, rel1, out_of s1 o1 fun q st2 φ2 H2 e2 t2 o2 u qq H3 h3 => ?_⟩
    have s2 := s1.step t2 qq.val.1
    have rep2 := t2.rep rep1
    have sA : S0 K b φ2 ⟨st2.env.set i (some (.val w)), st2.sto⟩ (σ.set i (some v)) H2 := s2.setv (env := st2.env) (sto := st2.sto) rep2
    have sB : S0 K b φ2 ⟨(st2.env.set i (some (.val w))).set j (some (slOf q)), st2.sto⟩ ((σ.set i (some v)).set j (some u)) H2 := by
      have pat := set_patch (K := K) (φ := φ2) (Z := b.Z) (H := H2) (i := i) s2.rel.len rep2
      have av : ∀ a, AV b.Z (st2.env.set i (some (.val w))) (σ.set i (some v)) a → AV b.Z st2.env σ a := fun a z => z.elim .inl fun o => .inr (OE.patch pat a o)
      refine sA.setr (B := H1) (fun a o h => s1.ext.dom a o h) ?_
      cases q with
      | v w2 => exact ⟨sA.rel, qq.2.anti av⟩
      | f kq ws =>
        obtain ⟨p, vs, rfl, h0, h1, h2, h3', h5, h6⟩ := qq
        have pat2 := set_patch (K := K) (φ := φ2) (Z := fun a => b.Z a ∨ a = p) (H := H2) (i := i) (v := v) (w := w) s2.rel.len (by
          -- w stood ahead of the second list
          have h7 : Rep K φ1 (fun a => AV b.Z st1.env σ a ∨ a = p) H1 w v := rep1.apart h0
          exact (h7.ext t2.ext fun a z => .inl (.inr z)).anti fun a z => by
            rcases z with (z | z) | z
            · exact .inl (.inl z)
            · exact .inr z
            · exact .inl (.inr (t2.own a z)))
        refine ⟨p, vs, rfl, h0, h1, fun z => h2 (av p z), h3', h5.patch (e1 := st2.env) (by rw [List.length_set, List.length_set]; exact s2.rel.len) pat2, h6.anti fun a z => ?_⟩
        exact z.elim .inl fun o => .inr (OE.patch pat2 a o)
    rcases h3 with rfl | ⟨p, ob, h0, rfl⟩
    · exact o2 φ2 _ _ sB
    · exact o2 φ2 _ _ ⟨sB.rel.upd h0, sB.ext.trans (Ext.upd (B := fun _ => False) h0) fun _ z => z.elim, sB.own⟩
  | f kr ws1 =>
    obtain ⟨p, vs, rfl, h0, h1, h2, h3, h5, h6⟩ := rr
    have s1' : S0 K ⟨b.φ, fun a => b.Z a ∨ a = p, b.B, b.H, b.hn⟩ φ1 st1 σ H1 := ⟨h5, s1.ext, s1.own⟩
    refine ⟨φ1, fun a => b.Z a ∨ a = p, st1, h5, ?_⟩
    cases hy : (evB C y).v st1 with
    | bad => rw [hy] at o1; exact o1.elim
    | exn c fs st2 =>
      rw [hy] at o1
      intro φ2 H2 cls d t2 rel2 x
      have rel2' : Rel K φ2 b.Z st2 σ H2 := rel2.less fun a z => .inl z
      refine o1 φ2 σ H2 cls d (s1.step t2 rel2') ⟨x.1, fun f w hf => ?_, x.2.2⟩
      obtain ⟨dd, xs, v, q1, q2, q3, q4, q5, q6⟩ := x.2.1 f w hf
      have av : ∀ a, AV b.Z st2.env σ a → AV (fun a => b.Z a ∨ a = p) st2.env σ a := fun a z => z.elim (fun z => .inl (.inl z)) .inr
      exact ⟨dd, xs, v, q1, q2, q3, fun z => q4 (av dd z), q5, q6.anti av⟩
    | ok q st2 =>
      rw [hy] at o1
      intro φ2 H2 t2 u qq H3 hh3
      obtain ⟨relq, _⟩ := qq.val
      have pn : p ∉ φ2 := h3.notin t2.ext h1
      have pno : ¬ OE st1.env σ p := fun z => h2 (.inr z)
      have hp2 : At H2 p kr vs := h3.ext t2.ext h1 pno
      have pav : ¬ AV b.Z st2.env σ p := fun z => z.elim (fun z => h2 (.inl z)) fun z => pno (t2.own p z)
      have r6 : Reps K φ2 (AV (fun a => b.Z a ∨ a = p) st2.env σ) H2 ws1 vs := t2.reps h6
      obtain ⟨relA, oeA⟩ := Rel.seto (i := i) (env := st2.env) (sto := st2.sto) relq pn pav hp2 r6
      have hbp : b.B p := b.hn p (Dm.none s.ext.dom h0)
      have s2 := s1.step t2 (relq.less (Z' := b.Z) fun a z => .inl z)
      have sA : S0 K b φ2 ⟨st2.env.set i (some (.own kr ws1)), st2.sto⟩ (σ.set i (some (.ref p))) H2 := ⟨relA, s2.ext, fun a z => (oeA a z).elim (s2.own a) fun q => by rw [q]; exact hbp⟩
      have sB : S0 K b φ2 ⟨(st2.env.set i (some (.own kr ws1))).set j (some (slOf q)), st2.sto⟩ ((σ.set i (some (.ref p))).set j (some u)) H2 := by
        have av : ∀ a, AV b.Z (st2.env.set i (some (.own kr ws1))) (σ.set i (some (.ref p))) a → AV (fun a => b.Z a ∨ a = p) st2.env σ a := fun a z => by
          rcases z with z | z
          · exact .inl (.inl z)
          · rcases oeA a z with z | z
            · exact .inr z
            · exact .inl (.inr z)
        refine sA.setr (B := H1) (fun a o h => s1.ext.dom a o h) ?_
        cases q with
        | v w2 => exact ⟨sA.rel, qq.2.anti av⟩
        | f kq ws2 =>
          obtain ⟨p2, vs2, rfl, g0, g1, g2, g3, g5, g6⟩ := qq
          have pp : p2 ≠ p := fun z => g2 (.inl (.inr z))
          have g5' : Rel K φ2 (fun a => (b.Z a ∨ a = p2) ∨ a = p) st2 σ H2 := g5.less fun a z => by
            rcases z with (z | z) | z
            · exact .inl (.inl z)
            · exact .inr z
            · exact .inl (.inr z)
          have r7 : Reps K φ2 (AV (fun a => (b.Z a ∨ a = p2) ∨ a = p) st2.env σ) H2 ws1 vs := by
            have q1 : Reps K φ1 (fun a => AV (fun a => b.Z a ∨ a = p) st1.env σ a ∨ a = p2) H1 ws1 vs := h6.apart g0
            refine (q1.ext t2.ext fun a z => .inl (.inr z)).anti fun a z => ?_
            rcases z with ((z | z) | z) | z
            · exact .inl (.inl (.inl z))
            · exact .inr z
            · exact .inl (.inl (.inr z))
            · exact .inl (.inr (t2.own a z))
          have pav2 : ¬ AV (fun a => b.Z a ∨ a = p2) st2.env σ p := fun z => by
            rcases z with (z | z) | z
            · exact h2 (.inl z)
            · exact pp z.symm
            · exact pno (t2.own p z)
          obtain ⟨relC, oeC⟩ := Rel.seto (i := i) (env := st2.env) (sto := st2.sto) g5' pn pav2 hp2 r7
          refine ⟨p2, vs2, rfl, g0, g1, fun z => ?_, g3, relC, g6.anti fun a z => ?_⟩
          · exact g2 (av p2 z)
          · rcases z with (z | z) | z
            · exact .inl (.inl (.inl z))
            · exact .inl (.inr z)
            · rcases oeC a z with z | z
              · exact .inr z
              · exact .inl (.inl (.inr z))
      rcases hh3 with rfl | ⟨p', ob, h0', rfl⟩
      · exact o1 φ2 _ _ sB
      · exact o1 φ2 _ _ ⟨sB.rel.upd h0', sB.ext.trans (Ext.upd (B := fun _ => False) h0') fun _ z => z.elim, sB.own⟩
end
end LL

set_option Elab.async false
set_option linter.all false
set_option maxRecDepth 100000
set_option maxHeartbeats 4000000
/-! LLt: an own error with super().__init__(words) and fields: how it is made. -/
namespace LL
open PySem PySem.W PySem.Calls PyProof.Rows PySem.HandSPX

/-- self.f = f, one after another -/
inductive FldSt : List Str → List Stmt → Prop where
  | nil : FldSt [] []
  | cons {f : Str} {fs : List Str} {r : List Stmt} {q1 q2 q3 q4 : Pos} (h : FldSt fs r) : FldSt (f :: fs) (.Assign [.Attribute (.Name "self" q1) f q2] (.Name f q3) q4 :: r)
/-- what the written part says of an error's class at C and of its __init__ at fI (its cell __class__ at cc, its code at cda) -/
structure ErrTxt (P : Program) (K : Frag) (mg : Str → Option Value) (fs : List Str) (C fI cc cda : Addr) : Prop where
  cls : ∃ nm q N bs bm sn sub ab col dd k0 k1 k2 k3 k5, K.lookup C = some (excClassObj nm q C N bs bm true sn sub ab col dd k0 k1 k2 k3 k5 "ValueError.__new__") ∧ refsVE bm = true ∧ alongIn K "__init__" bm = some (some (.builtin "ValueError.__init__"))
  sa : findIn K (.ref C) "__setattr__" = some (some (.builtin "object.__setattr__"))
  noN : ∀ f ∈ fs, findIn K (.ref C) f = some none
  iC : findIn K (.ref C) "__init__" = some (some (.ref fI))
  tC : typeIn K (.ref fI) = some (.type "function")
  kC : keepIn K (.ref C) = true
  exC : subIn K (.ref C) (.type "BaseException") = some true
  tyC : typeIn K (.ref C) = some (.type "type")
  nsup : nsIn K mainGlobals "super" = some none
  opq : nsIn K cStatics "thirdparty.any" = some none
  cell : ∃ cl cld csl, K.lookup cc = some ⟨cl, cld, .cell (some (.ref C)), csl⟩
  code : ∃ ccl cdd vs ccs file tf, K.lookup cda = some ⟨ccl, cdd, .fields vs, ccs⟩ ∧ vs[2]? = some (.str file tf) ∧ ((P.main.file : Str) == file) = true
  top : (P.main.scope.names.lookup ("super" : Str)).isSome = false
  few : fs.length ≤ 900
  dbg : ∀ f ∈ fs, (f == ("__debug__" : Str)) = false
  fn : ∃ (oc doc pm ct : Value) (od an : Option Addr) (osl : Array (Option Value)) (qn : Str) (params : Arguments) (scope : Scope) (r : List Stmt) (txt : Str) (j : Nat) (p0 p1 p2 p3 p4 p5 pa : Pos) (ann : Option Expr) (ars : List Arg),
    K.lookup fI = some ⟨oc, od, .func (ksFn "__init__" qn params (.Expr (.Call (.Attribute (.Call (.Name "super" p0) [] [] p1) "__init__" p2) [.Constant (.str txt) j p3] [] p4) p5 :: r) scope .none .none doc pm an (.ref cda) ct cc), osl⟩ ∧ codeIn K (.ref cda) qn = true ∧ (p2.endLine == p4.line) = true ∧ FldSt fs r ∧
    params.posonlyargs ++ params.args = ⟨"self", ann, pa⟩ :: ars ∧ scope.kind = .function ∧ scope.isCoroutine = false ∧ scope.isGenerator = false ∧ (∀ x ∈ scope.names, x.2 ≠ .cell) ∧ scope.names.lookup ("super" : Str) = some .globalImplicit ∧ scope.names.lookup ("__class__" : Str) = some .free ∧
    (∀ f ∈ ("self" : Str) :: fs, scope.names.lookup f = some .local) ∧ (("self" : Str) :: fs).Nodup ∧ (∀ us : List Value, us.length = fs.length + 1 → bindArgs (ksFn "__init__" qn params (.Expr (.Call (.Attribute (.Call (.Name "super" p0) [] [] p1) "__init__" p2) [.Constant (.str txt) j p3] [] p4) p5 :: r) scope .none .none doc pm an (.ref cda) ct cc) ⟨us, []⟩ = pure ((("self" : Str) :: fs).zip us))
/-- what is kept by a field's name -/
def fldM (fs : List Str) (vs : List Value) : Str → Option Value := fun y => (fs.zip vs).reverse.lookup y
/-- a method that is called on one row -/
theorem call_he {o a : Expr} {name : Str} {apos pos : Pos} {env : Env} (ha : ∀ env : Env, starEach [a] env = [(false, eval a env)]) (hline : (apos.endLine == pos.line) = true) : eval (.Call (.Attribute o name apos) [a] [] pos) env = (do
      let ov ← attributeBase o name env (eval o env)
      standAt apos.atName
      let (f, first) ← holding [ov] (getMethod ov name (do return (← importBound o env).getD true))
      callWith pos f first (backTo pos (starEach [a] env)) []) := by
  have hform : methodCallForm 1 (backTo pos (starEach [a] env)) [] = true := by rw [ha]; rfl
  have hpos : methodCallPos true o env apos pos = pure pos := by unfold methodCallPos; simp [hline]
  show (do
    let ov ← attributeBase o name env (eval o env)
    standAt apos.atName
    methodCall o name apos pos env ov 1 (backTo pos (starEach [a] env)) []) = _
  unfold methodCall
  simp only [hform, hpos, calleeOf, if_true, pure_bind]
section
variable {prog : Program} {w : World} {A : Around} {E : Value → Shared → Prop} {R : Result → Shared → Prop} {s : Shared} {K : Frag} {mg mb : Str → Option Value} {fs : List Str} {C fI cc cda : Addr}
theorem lookup_names {y : Str} : ∀ {l : List (Str × Value)}, l.lookup y ≠ none → y ∈ l.map (·.1)
  | [], h => (h rfl).elim
  | (n, v) :: l, h => by
    rw [List.lookup_cons] at h
    by_cases e : y = n
    · rw [e]; simp
    · have : (y == n) = false := by simpa using e
      rw [this] at h
      exact List.mem_cons_of_mem _ (lookup_names h)
theorem lookup_mem {y : Str} {v : Value} : ∀ {l : List (Str × Value)}, (l.map (·.1)).Nodup → (y, v) ∈ l → l.lookup y = some v
  | (n, u) :: l, hn, h => by
    rw [List.map_cons, List.nodup_cons] at hn
    rw [List.lookup_cons]
    rcases List.mem_cons.mp h with e | h
    · cases e
      simp
    · have ne : y ≠ n := fun e => hn.1 (by rw [← e]; exact List.mem_map.mpr ⟨_, h, rfl⟩)
      have : (y == n) = false := by simpa using ne
      rw [this]
      exact lookup_mem hn.2 h
theorem zip_lookup {l : List Str} {vs : List Value} {y : Str} {v : Value} (hn : l.Nodup) (hl : l.length = vs.length) (h : (y, v) ∈ l.zip vs) : (l.zip vs).reverse.lookup y = some v := by
  refine lookup_mem ?_ (List.mem_reverse.mpr h)
  rw [List.map_reverse, List.map_fst_zip (Nat.le_of_eq hl)]
  exact (List.reverse_perm l).nodup_iff.mpr hn
/-- how far the fields are -/
def EIn (h : Heap) (x C L n : Addr) (done : List (Str × Value)) : Prop := ∃ t1, (done = [] ∧ h.get? x = some (excO C t1)) ∨ ∃ dx m, h.get? x = some { cls := .ref C, dict := some dx, data := .fields #[.ref t1, .none, .none, .none, .bool false, .none] } ∧ n ≤ dx ∧ L < dx ∧ dx ≠ x ∧ h.Ns1 dx m ∧ ∀ y, m y = done.lookup y
theorem flds_run {env : Env} {hb : Heap} {x C L : Addr} {cd : ClassData} {ml : Str → Option Value} {Q : Flow → Shared → Prop} (hke : env.scope.kind = .function) (hLe : env.locals = L) (X0 : K.In hb) (hnx : K.lookup x = none) (hcl : clsIn K C = some cd) (hbm : refsVE cd.mro = true) (hh : cd.hasDict = true)
    (sa : findIn K (.ref C) "__setattr__" = some (some (.builtin "object.__setattr__"))) (xL : L ≠ x) (hxs : hb.objs.size ≤ L) (hself : ml "self" = some (.ref x)) (hks : env.kindOf "self" = some .local) : ∀ {fs : List Str} {r : List Stmt} {vs : List Value}, FldSt fs r → (∀ p ∈ fs.zip vs, ml p.1 = some p.2) → vs.length = fs.length → (∀ f ∈ fs, findIn K (.ref C) f = some none ∧ env.kindOf f = some .local ∧ (f == ("__debug__" : Str)) = false) →
    ∀ (done : List (Str × Value)) (s : Shared), done.length + fs.length ≤ 900 → (∀ b o, b ≠ x → hb.get? b = some o → s.heap.get? b = some o) → s.heap.Ns L ml → EIn s.heap x C L hb.objs.size done →
      (∀ h' tk, (∀ b o, b ≠ x → hb.get? b = some o → h'.get? b = some o) → EIn h' x C L hb.objs.size ((fs.zip vs).reverse ++ done) → Q .next { s with heap := h', toks := tk }) →
      wpAny (model prog w) A (execs r env) Q E s := by
  intro fs r vs hfl
  induction hfl generalizing vs with
  | nil =>
    intro _ _ _ done s _ k _ e q
    exact wpAny_execs_nil (q s.heap s.toks k (by simpa using e))
  | @cons f fs r q1 q2 q3 q4 hr ih =>
    intro hm hv hf done s hl k hn e q
    cases vs with
    | nil => cases hv
    | cons v vs =>
      obtain ⟨f1, f2, f3⟩ := hf f List.mem_cons_self
      have hv0 := hm (f, v) (by simp)
      have Xs : K.In s.heap := fun a o z => k a o (fun z2 => by rw [z2, hnx] at z; cases z) (X0 a o z)
      obtain ⟨h0, g, d, t, os⟩ := s
      subst hLe
      refine wpAny_execs_cons (plainObj_wpAny_Assign_Attribute ?_)
      refine wpAny_Name (wpAny_loadName_local hke f2 hn hv0 ?_) f3
      refine wpAny_Name (wpAny_loadName_local hke hks hn hself ?_) (by decide +kernel)
      have next : ∀ h3 tk3, (∀ b o, b ≠ x → hb.get? b = some o → h3.get? b = some o) → h3.Ns env.locals ml → EIn h3 x C env.locals hb.objs.size ((f, v) :: done) → wpAny (model prog w) A (execs r env) Q E ⟨h3, g, d, tk3, os⟩ := fun h3 tk3 k3 n3 e3 =>
        ih (vs := vs) (fun p hp => hm p (by simp [hp])) (by simpa using hv) (fun f' hf' => hf f' (List.mem_cons_of_mem _ hf')) ((f, v) :: done) ⟨h3, g, d, tk3, os⟩ (by simp at hl ⊢; omega) k3 n3 e3 fun h' tk kk ee => q h' tk kk (by simpa using ee)
      obtain ⟨t1, e | ⟨dx, m, e1, e2, e3, e4, e5, e6⟩⟩ := e
      · obtain ⟨rfl, hx⟩ := e
        refine set_plain Xs (ox := excO C t1) (od := none) ⟨hx, rfl, rfl, trivial⟩ sa ?_
        refine exc_osa Xs hx hcl hbm hh f1 (fun h3 tk3 dx k3 dn dne hx3 hn3 => ?_)
        have kk : ∀ b o, b ≠ x → hb.get? b = some o → h3.get? b = some o := fun b o nb z => k3 b o nb (k b o nb z)
        obtain ⟨oL, es, ep, hL, rr⟩ := hn
        have zL : env.locals < h0.objs.size := Heap.lt_size hL
        exact next h3 tk3 kk ⟨oL, es, ep, k3 _ _ xL hL, rr⟩ ⟨t1, .inr ⟨dx, _, hx3, Nat.le_trans hxs (Nat.le_of_lt (Nat.lt_of_lt_of_le zL dn)), Nat.lt_of_lt_of_le zL dn, dne, hn3, fun y => by
          rw [List.lookup_cons]
          by_cases hy : y = f
          · simp [hy]
          · have : (y == f) = false := by simpa using hy
            simp [hy, this]⟩⟩
      · have hw : Within m (done.map (·.1)) := fun y hy => by
          rw [e6] at hy
          exact lookup_names hy
        obtain ⟨oD, esD, epD, hoD, hdD, _⟩ := e5.count hw
        refine set_plain Xs (ox := { cls := .ref C, dict := some dx, data := .fields #[.ref t1, .none, .none, .none, .bool false, .none] }) (od := some oD) ⟨e1, rfl, rfl, hoD⟩ sa ?_
        refine PySem.OEX.osa_old Xs e1 e5 hw (by rw [List.length_map]; simp at hl; omega) hcl hbm hh f1 (fun h3 tk3 k3 hn3 => ?_)
        have kk : ∀ b o, b ≠ x → hb.get? b = some o → h3.get? b = some o := fun b o nb z => k3 b o (Nat.ne_of_lt (Nat.lt_of_lt_of_le (Heap.lt_size z) e2)) (k b o nb z)
        obtain ⟨oL, es, ep, hL, rr⟩ := hn
        exact next h3 tk3 kk ⟨oL, es, ep, k3 _ _ (Nat.ne_of_lt e3) hL, rr⟩ ⟨t1, .inr ⟨dx, _, k3 _ _ (Ne.symm e4) e1, e2, e3, e4, hn3, fun y => by
          rw [List.lookup_cons]
          by_cases hy : y = f
          · simp [hy]
          · have : (y == f) = false := by simpa using hy
            simp [hy, this, e6]⟩⟩
theorem err_init (T : ErrTxt prog K mg fs C fI cc cda) {x t0 : Addr} {vs : List Value} (hv : vs.length = fs.length) (X : K.In s.heap) (G : s.heap.Ns mainGlobals mg) (B : s.heap.Ns builtinsNs mb) (hB : mb "super" = bootBuiltins "super") (hm : mg "super" = none)
    (hlim : s.heap.NoLimit) (hx : s.heap.get? x = some (excO C t0)) (hnx : K.lookup x = none) (hroom : A.depth < recursionLimit)
    (hq : ∀ h' tk, (∀ b o, b ≠ x → s.heap.get? b = some o → h'.get? b = some o) → (∃ t1, (fs = [] ∧ h'.get? x = some (excO C t1)) ∨ ∃ dx m, h'.get? x = some { cls := .ref C, dict := some dx, data := .fields #[.ref t1, .none, .none, .none, .bool false, .none] } ∧ s.heap.objs.size ≤ dx ∧ dx ≠ x ∧ h'.Ns1 dx m ∧ ∀ y, m y = fldM fs vs y) → R (.ok (.ret .none)) { s with heap := h', toks := tk }) :
    codeAny (model prog w) A (.call (.ref fI) ⟨.ref x :: vs, []⟩) R s := by
  obtain ⟨oc, doc, pm, ct, od, an, osl, qn, params, scope, r, txt, j, p0, p1, p2, p3, p4, p5, pa, ann, ars, ho, hcd, hline, hfl, hpar, hk, hco, hgen, hnc, hsup, hcls, hloc, hnd, hbind⟩ := T.fn
  obtain ⟨nm, q, N, bs, bm, sn, sub, ab, col, dd, k0, k1, k2, k3, k5, hC, hbm, hal⟩ := T.cls
  obtain ⟨ccl, cdd, cvs, ccs, file, tf, hcda, hfile, hfe⟩ := T.code
  obtain ⟨cl, cld, csl, hcell⟩ := T.cell
  have hcl : clsIn K C = some { name := nm, bases := bs, mro := .ref C :: bm, ns := N, qualname := q, hasDict := true, slotNames := sn, subclasses := sub, abstract := ab, collection := col, hasDel := false } := by unfold clsIn; rw [hC] <;> rfl
  refine ks_codeAny_call_defAt (fd := ksFn "__init__" qn params (.Expr (.Call (.Attribute (.Call (.Name "super" p0) [] [] p1) "__init__" p2) [.Constant (.str txt) j p3] [] p4) p5 :: r) scope .none .none doc pm an (.ref cda) ct cc) (binds := (("self" : Str) :: fs).zip (.ref x :: vs)) hroom (X _ _ ho) rfl hlim (codeRec_of X hcd) rfl (BindsTo.of_eq (hbind _ (by rw [List.length_cons, hv]))) hnc (fun y hy => hloc y.1 (List.of_mem_zip hy).1) (fun h₁ hns k => ?_) hco hgen hk
  have X1 : K.In h₁ := X.keeps k
  have hx1 := k _ _ hx
  obtain ⟨h0, g, d, t, os⟩ := s
  have hself : (fun y => ((("self" : Str) :: fs).zip (.ref x :: vs)).reverse.lookup y) ("self" : Str) = some (.ref x) := by
    exact zip_lookup hnd (by simp [hv]) (by simp)
  have hC1 := X1 _ _ hC
  have xC : x ≠ C := fun z => by rw [z, hC] at hnx; cases hnx
  have kof : scope.names.lookup ("self" : Str) = some .local := hloc _ List.mem_cons_self
  have hsub : mroIn K C (.ref C) = some true := by
    unfold mroIn
    rw [hcl]
    simp
  refine ks_wpAt_execs_cons (ks_wpAt_Expr_any (ks_wpAt_MethodCall (ks_wpAt_super_base (f := fI) (cc := cda) hsup hcls rfl rfl (X1 _ _ ho) rfl (ar := ⟨"self", ann, pa⟩) (by rw [hpar]; rfl) rfl (X1 _ _ hcda) rfl hfile hfe T.top ?_) (call_he (fun _ => rfl) hline)) ?_ ?_)
  · refine ks_loadName_global hk hsup (loadGlobal_builtin (G.keeps k) hm (B.keeps k) (hB.trans (by decide +kernel)) ⟨rfl, ?_⟩)
    refine wpAny_loadName_free hk hcls rfl ⟨_, X1 _ _ hcell, rfl⟩ ?_
    refine wpAny_loadName_local hk kof hns hself ?_
    refine ks_wpAny_isType_cls hC1 rfl ⟨rfl, ?_⟩
    refine ks_wpAny_call_super hC1 rfl hx1 rfl (fun c e => nomatch e) (looks_mroIn X1 hsub) fun h2 hso k2 => ?_
    have X2 : K.In h2 := X1.keeps k2
    have hx2 := k2 _ _ hx1
    have I2 : InstAt h2 x (excO C t0) C none := ⟨hx2, rfl, rfl, trivial⟩
    have hmro : Looks (model prog w) h2 (mroOf (.ref C)) (.ref C :: bm) := fun A Q E s k q => wpAny_bind ((looks_clsIn X2 hcl) A _ E s k (wpAny_pure q))
    have hve : (Value.ref C :: bm).contains (.type "ValueError") = true := (refsVE_contains "ValueError" (.ref C :: bm) hbm).trans (by decide +kernel)
    have hI : Looks (model prog w) h2 (isInstance (.ref x) (.type "ValueError")) true := I2.type.andThen (looks_mroIn X2 (by unfold mroIn; rw [hcl, Option.bind_some, if_neg (by simp), hve]))
    refine kxs_getMethod kxs_ValueError hso (looks_opaque X2 T.opq) hmro (by simp [List.dropWhile_cons]) X2 hal hI xC rfl ?_
    have hu : (h2.push (kxs_mw "ValueError.__init__" x)).get? h2.objs.size = some (kxs_mw "ValueError.__init__" x) := Heap.get?_push_size _ rfl
    refine kxs_callWith (i := "ValueError.__init__") (x := x) rfl (evalArgs_plain (Calls.spliced_cons (Calls.Constant_str (k := j) (pos := p3) (Calls.spliced_nil ⟨hu, ?_⟩))))
    have hC3 : (h2.push (kxs_mw "ValueError.__init__" x)).get? C = some _ := Heap.get?_push_of_some _ (k2 _ _ hC1)
    have hx3 : (h2.push (kxs_mw "ValueError.__init__" x)).get? x = some (excO C t0) := Heap.get?_push_of_some _ hx2
    refine wpAny_call (codeAny_of_tree ?_)
    refine (show wpAny _ _ (callAny (.ref h2.objs.size) _) _ _ _ from ?_)
    simp only [callAny]
    refine wpAny_bind (wpAny_load hu ?_)
    simp only [kxs_mw, show (Value.type "method-wrapper" == Value.type "method" || Value.type "method-wrapper" == Value.type "builtin_function_or_method" || Value.type "method-wrapper" == Value.type "method-wrapper") = true by decide, if_true]
    refine KFB.if_so (by decide) ?_
    refine wpAny_bind (check_bound_init PySem.F.excBase_ValueError.toExcCallFacts hC3 hx3 rfl ?_)
    refine wpAny_bind (wpAny_pure (wpAny_pure ?_))
    refine ⟨plainId_quiet PySem.F.excBase_ValueError.init.plain _, codeAny_builtin PySem.F.excBase_ValueError.initEntry ?_⟩
    refine exc_init_tree (cls := .ref C) (t0 := t0) (dv := none) (c2 := .none) (c3 := .none) (b4 := .bool false) hx3 (by show 1 ≤ sizeLine; decide) fun h4 k4 hx4 ht4 => ?_
    have xs0 : x < h0.objs.size := Heap.lt_size hx
    have eL : (callEnv (ksFn "__init__" qn params (.Expr (.Call (.Attribute (.Call (.Name "super" p0) [] [] p1) "__init__" p2) [.Constant (.str txt) j p3] [] p4) p5 :: r) scope .none .none doc pm an (.ref cda) ct cc) h0.objs.size fI).locals = h0.objs.size := rfl
    have kz : ∀ b o, b ≠ x → h₁.get? b = some o → h4.get? b = some o := fun b o nb e => k4 b o nb (Heap.get?_push_of_some _ (k2 b o e))
    obtain ⟨oL, es, ep, hL, rr⟩ := hns
    refine (show _root_.PySem.wpAt _ _ _ (execs r _) _ _ _ from wpAt_of_wpAny (flds_run (K := K) (hb := h0) (x := x) (C := C) (L := h0.objs.size) (ml := fun y => ((("self" : Str) :: fs).zip (.ref x :: vs)).reverse.lookup y) hk eL X hnx hcl hbm rfl T.sa (Nat.ne_of_gt xs0) (Nat.le_refl _) hself kof hfl ?_ hv ?_ [] ⟨h4, g, d, _, os⟩ ?_ (fun b o nb e => kz b o nb (k b o e)) ⟨oL, es, ep, kz _ _ (Nat.ne_of_gt xs0) hL, rr⟩ ⟨_, .inl ⟨rfl, hx4⟩⟩ fun h' tk kk ee => ?_))
    · exact fun p hp => zip_lookup hnd (by simp [hv]) (by rw [List.zip_cons_cons]; exact List.mem_cons_of_mem _ hp)
    · exact fun f hf => ⟨T.noN f hf, hloc f (List.mem_cons_of_mem _ hf), T.dbg f hf⟩
    · simpa using T.few
    · obtain ⟨t1, ee⟩ := ee
      rw [List.append_nil] at ee
      refine hq h' tk kk ⟨t1, ?_⟩
      rcases ee with ⟨e1, e2⟩ | ⟨dx, m, e1, e2, _, e4, e5, e6⟩
      · refine .inl ⟨?_, e2⟩
        cases fs with
        | nil => rfl
        | cons f fs =>
          cases vs with
          | nil => cases hv
          | cons v vs => simp at e1
      · exact .inr ⟨dx, m, e1, e2, e4, e5, e6⟩
  · have e : ∀ env : Env, env.scope.kind = .function → interactive env = false := fun env h => by simp [interactive, h]
    exact e _ hk
  · rfl
/-- an error that was made -/
structure ErrMade (h h' : Heap) (e C d : Addr) (fs : List Str) (vs : List Value) : Prop where
  keep : ∀ b o, h.get? b = some o → h'.get? b = some o
  new : h.objs.size ≤ e
  obj : ∃ oe us, h'.get? e = some oe ∧ oe.cls = .ref C ∧ oe.dict = some d ∧ oe.data = .fields us ∧ us[1]? = some .none
  dbig : h.objs.size ≤ d
  dne : d ≠ e
  ns : ∃ m, h'.Ns1 d m ∧ ∀ y, m y = fldM fs vs y
theorem err_made (T : ErrTxt prog K mg fs C fI cc cda) (hne : fs ≠ []) {vs : List Value} (hv : vs.length = fs.length) (X : K.In s.heap) (G : s.heap.Ns mainGlobals mg) (B : s.heap.Ns builtinsNs mb) (hB : mb "super" = bootBuiltins "super") (hm : mg "super" = none)
    (hlim : s.heap.NoLimit) (hroom : A.depth + 1 < recursionLimit) (hq : ∀ h' tk e d, ErrMade s.heap h' e C d fs vs → R (.ok (.ret (.ref e))) { s with heap := h', toks := tk }) : codeAny (model prog w) A (.call (.ref C) ⟨vs, []⟩) R s := by
  obtain ⟨nm, q, N, bs, bm, sn, sub, ab, col, dd, k0, k1, k2, k3, k5, hC, hbm, hal⟩ := T.cls
  obtain ⟨h0, g, dr, tk, os⟩ := s
  have up : ∀ b o, h0.get? b = some o → ((h0.push (kdv_tup vs)).push (excO C h0.objs.size)).get? b = some o := fun b o e => Heap.get?_push_of_some _ (Heap.get?_push_of_some _ e)
  have z1 : (h0.push (kdv_tup vs)).objs.size = h0.objs.size + 1 := Heap.size_push ..
  have ox : ((h0.push (kdv_tup vs)).push (excO C h0.objs.size)).get? (h0.objs.size + 1) = some (excO C h0.objs.size) := by
    rw [← z1]; exact Heap.get?_push_size _ rfl
  have nx : K.lookup (h0.objs.size + 1) = none := by
    cases e : K.lookup (h0.objs.size + 1) with
    | none => rfl
    | some o => exact absurd (Heap.lt_size (X _ _ e)) (Nat.not_lt.mpr (Nat.le_succ _))
  have vz : vs.length ≤ sizeLine := by
    rw [hv]
    exact Nat.le_trans T.few (by decide)
  refine call_own PySem.F.excBase_ValueError (fun Y => refsVE_contains Y bm hbm) (X _ _ hC) (looks_findIn X T.iC) (fun self => bind_fn X self T.tC) vz ?_
  refine err_init (s := ⟨(h0.push (kdv_tup vs)).push (excO C h0.objs.size), g, dr, tk, os⟩) T hv (X.keeps up) (G.keeps up) (B.keeps up) hB hm (hlim.keeps up) ox nx hroom fun h' tk' kp ⟨t1, hh⟩ => ?_
  rcases hh with ⟨e1, _⟩ | ⟨dx, m, e1, e2, e3, e4, e5⟩
  · exact (hne e1).elim
  · refine ⟨rfl, hq h' tk' (h0.objs.size + 1) dx ⟨fun b o e => kp b o (Nat.ne_of_lt (Nat.lt_succ_of_lt (Heap.lt_size e))) (up b o e), Nat.le_succ _, ⟨_, _, e1, rfl, rfl, rfl, rfl⟩, ?_, e3, m, e4, e5⟩⟩
    refine Nat.le_trans ?_ e2
    show h0.objs.size ≤ ((h0.push (kdv_tup vs)).push (excO C h0.objs.size)).objs.size
    rw [Heap.size_push, z1]
    exact Nat.le_trans (Nat.le_succ _) (Nat.le_succ _)
end
end LL
namespace LL
open PySem L2 PySem.Spec PyProof.Rows
theorem relO_fld : ∀ {fs : List Str} {vs : List V} {us : List Value} {ad : List (Str × V)} {au : List (Str × Value)}, Vals vs us → (∀ y, RelO (ad.lookup y) (au.lookup y)) → ∀ y, RelO (((fs.zip vs).reverse ++ ad).lookup y) (((fs.zip us).reverse ++ au).lookup y)
  | [], vs, us, ad, au, _, h, y => by simpa using h y
  | f :: fs, [], us, ad, au, r, h, y => by cases r; simpa using h y
  | f :: fs, v :: vs, us, ad, au, r, h, y => by
    cases r with
    | @cons _ u _ us rv rr =>
      have ih := relO_fld (fs := fs) (ad := (f, v) :: ad) (au := (f, u) :: au) rr (fun z => by
        rw [List.lookup_cons, List.lookup_cons]
        cases z == f
        · exact h z
        · exact rv) y
      simpa using ih
section
variable {X : Cx} {fs : List Str} {C fI cc cda : Addr}
/-- C(e, ..), C an own error -/
def tMkE (C : Addr) (fs : List Str) (ta : TA) : L2.St → Hp → XK → Prop := fun σ H Q => ta σ H fun vs H1 => vs.length = fs.length ∧ ∀ d, H1 d = none → Q (.ref C) (some d) (upd H1 d (.xd (fs.zip vs).reverse))
theorem pmk_err {x : Str} {e : Expr} {es : List Expr} {ta : TA} {p pos : Pos} {k : Nat} (T : ErrTxt X.prog X.K X.mg fs C fI cc cda) (hfs : fs ≠ []) (hm : X.mg x = some (.ref C)) (hs : X.mg "super" = none) (hr : Room k X.A) (ha : PA X (e :: es) ta) (hg : Gl X x) (hx : (x == ("__debug__" : Str)) = false)
    (he : starEach (e :: es) X.env = (false, eval e X.env) :: starEach es X.env) (hpl : (backTo pos (starEach es X.env)).any (·.1) = false) : PMk X (.Call (.Name x p) (e :: es) [] pos) (tMkE C fs ta) := by
  intro pins s σ H Q I h
  refine wpAny_Call_Name_kw (ld_glob I hg hm ?_ hx)
  refine PySem.W.callWith_K (h₀ := X.base) I.ok.mod.kin T.kC (thn (ha.run pos pins s σ H _ I h) fun us s1 ⟨vs, H1, I1, r1, hl, q1⟩ => ?_) he hpl
  refine ⟨I1.kIn, ?_⟩
  refine (show wpAny _ _ (call (.ref C) us) _ _ _ from ?_)
  have hul : us.length = fs.length := by rw [← r1.length]; exact hl
  obtain ⟨mb, b1, b2⟩ := I1.mod.blt
  have hlim := I1.nolimit
  have hG : s1.heap.Ns mainGlobals X.mg := I1.mod.glob.keeps I1.bk
  have hB : s1.heap.Ns builtinsNs mb := b1.keeps I1.bk
  obtain ⟨h0, g, dr, tk, os⟩ := s1
  refine wpAny_call (err_made T hfs hul I1.kIn hG hB (b2 _ (by decide +kernel)) hs hlim (by have := hr.dp; omega) fun h' tk' ea d M => ?_)
  refine (show MkP X pins σ Q (.ref ea) ⟨h', g, dr, tk', os⟩ from ?_)
  obtain ⟨oe, fv, hoe, hc, hd, hdat, h1⟩ := M.obj
  obtain ⟨m, hns, hmm⟩ := M.ns
  obtain ⟨G', g1, g2⟩ := restrict h' fun b => decide (b ≠ ea)
  have gk : ∀ b, b ≠ ea → G'.get? b = h'.get? b := fun b hb => g1 b (decide_eq_true hb)
  have ge : G'.get? ea = none := g2 ea (by simp)
  have old : ∀ b o, h0.get? b = some o → G'.get? b = some o := fun b o q => (gk b (Nat.ne_of_lt (Nat.lt_of_lt_of_le (Heap.lt_size q) M.new))).trans (M.keep b o q)
  have ob : ObjOk X.prog X.w (upd H1 d (.xd (fs.zip vs).reverse)) G' d (.xd (fs.zip vs).reverse) :=
    ⟨m, hns.at (fun o q => (gk d M.dne).trans q), fun f => by
      rw [hmm f]
      have := relO_fld (fs := fs) (ad := []) (au := []) r1 (fun _ => trivial) f
      simpa [fldM] using this⟩
  have J : Inv X pins σ (upd H1 d (.xd (fs.zip vs).reverse)) ⟨G', g, dr, tk', os⟩ := I1.laid (t' := tk') old M.dbig ob
  refine ⟨ea, oe, fv, ⟨G', g, dr, tk', os⟩, _, .ref C, some d, rfl, J, fun b o q => ?_, ge, hoe, ⟨hc, hd⟩, hdat, h1, ?_, rfl, I1.bare, raises_own T.exC T.tyC, q1 d (I1.hok.fresh M.dbig)⟩
  · by_cases hb : b = ea
    · have q' : G'.get? b = some o := q
      rw [hb, ge] at q'; cases q'
    · exact (gk b hb).symm.trans q
  · rw [upd_ne (Ne.symm M.dne)]
    exact I1.hok.fresh M.new
/-- raise C(e, ..) -/
theorem ps_raiseE {x : Str} {e : Expr} {es : List Expr} {ta : TA} {W : WX} {p pos pos2 : Pos} {k : Nat} (hc : X.calm = true) (T : ErrTxt X.prog X.K X.mg fs C fI cc cda) (hfs : fs ≠ []) (hm : X.mg x = some (.ref C)) (hs : X.mg "super" = none) (hr : Room k X.A) (tk : Takes X W) (ha : PA X (e :: es) ta) (hg : Gl X x) (hx : (x == ("__debug__" : Str)) = false)
    (he : starEach (e :: es) X.env = (false, eval e X.env) :: starEach es X.env) (hpl : (backTo pos (starEach es X.env)).any (·.1) = false) :
    PS X (.Raise (some (.Call (.Name x p) (e :: es) [] pos)) none pos2) (fun _ σ H => tMkE C fs ta σ H fun cls d H' => W cls d σ H') := ps_raise hc tk (pmk_err T hfs hm hs hr ha hg hx he hpl)
end
end LL

set_option Elab.async false
set_option linter.all false
set_option maxRecDepth 100000
set_option maxHeartbeats 4000000
/-! LLu: try with clauses, some of which name the exception. -/
namespace LL
open PySem L2 PySem.Spec PyProof.Rows
/-- behind a suite that named the exception in slot i -/
def offI (i : Nat) (D : Ends) : Ends := { nx := fun σ H => D.nx (σ.set i none) H, rt := D.rt, bk := fun σ H => D.bk (σ.set i none) H, ct := fun σ H => D.ct (σ.set i none) H }
/-- a clause: its class, the name's slot, its suite -/
structure Cla where
  c : Value
  oi : Option Nat
  ts : Addr → Value → Option Addr → TS
def Cla.run (k : Cla) (a : Addr) (cls : Value) (d : Option Addr) : TS := fun D σ H => match k.oi with
  | none => k.ts a cls d D σ H
  | some i => k.ts a cls d (offI i D) (σ.set i (some (.ref a))) H
def wG (K : PySem.W.Frag) (Wout : WX) (D : Ends) : List Cla → WX
  | [] => Wout
  | k :: r => fun cls d σ H => ∃ b, PySem.W.exmOne K cls k.c = some b ∧ (b = true → ∀ a, H a = none → k.run a cls d D σ H) ∧ (b = false → wG K Wout D r cls d σ H)
abbrev SuOk (X : Cx) (suite : List Stmt) (ts : Addr → Value → Option Addr → TS) : Prop := ∀ (a : Addr) (oe : Obj) (cls : Value) (d : Option Addr) (pn : List (Addr × Obj)), Zc cls d oe → (∃ vs, oe.data = .fields vs) → PSs (X.suite a ((a, oe) :: pn)) suite (ts a cls d)
inductive HG (X : Cx) : List ExceptHandler → List Cla → Prop
  | nil : HG X [] []
  | bare {x : Str} {c : Value} {ts : Addr → Value → Option Addr → TS} {b₀ : Stmt} {suite : List Stmt} {np pos' : Pos} {hds : List ExceptHandler} {l : List Cla} (hc : Names X x c) (hsu : SuOk X (b₀ :: suite) ts) (r : HG X hds l) :
      HG X (.ExceptHandler (some (.Name x np)) none (b₀ :: suite) pos' :: hds) (⟨c, none, ts⟩ :: l)
  | named {x n : Str} {i : Nat} {c : Value} {ts : Addr → Value → Option Addr → TS} {b₀ : Stmt} {suite : List Stmt} {np pos' : Pos} {hds : List ExceptHandler} {l : List Cla} (hi : X.N[i]? = some n) (hln : X.env.kindOf n = some .local) (hc : Names X x c) (hsu : SuOk X (b₀ :: suite) ts) (r : HG X hds l) :
      HG X (.ExceptHandler (some (.Name x np)) (some n) (b₀ :: suite) pos' :: hds) (⟨c, some i, ts⟩ :: l)
section
variable {X : Cx} {body : List Stmt} {h₀ : ExceptHandler} {hds : List ExceptHandler} {l : List Cla} {pos : Pos} {tb : WX → TS} {Wout : WX}
theorem ps_tryG (hs : X.stack = X.env :: X.outer) (hf : X.env.frame = some X.env.locals) (hN : X.N.Nodup) (tk : Takes X Wout)
    (hb : ∀ (W : WX) (pn : List (Addr × Obj)) (xe : Value → Shared → Prop), Takes (X.tr pn xe) W → PassesOwn (model X.prog X.w) X.A X.env xe → PSs (X.tr pn xe) body (tb W))
    (hh : HG X (h₀ :: hds) l) : PS X (.Try body (h₀ :: hds) [] [] pos) (fun D σ H => tb (wG X.K Wout D l) D σ H) := by
  constructor
  intro pins s σ H D I h
  have ok := I.ok
  have hfr : X.A.frames = some (X.env :: X.outer) := ok.frames.trans (congrArg some hs)
  refine wpAny_Try_except (wpAny_mono ((hb (wG X.K Wout D l) (X.pn ++ pins) (fun e s₁ => wpAny (model X.prog X.w) X.A (noteFrame e X.env) (fun _ s₂ => wpAny (model X.prog X.w) X.A (setFlight e none) (fun _ s₃ =>
    wpAny (model X.prog X.w) X.A (handleBy e X.env (h₀ :: hds)) (SP X pins D) X.xe s₃) X.xe s₂) X.xe s₁) (fun u s' xx => ?_) PassesOwn.looking).run [] s σ H D (I.toTry _) h) (fun f s1 hsp => ?_) (fun e s1 he => he))
  · obtain ⟨a, B, sI, pins', σ', H', cls, d, rfl, J', nb, up, sky, na, os, ag, w⟩ := xx
    have J : Inv X pins σ' H' sI := J'.ofTry ok
    have sky' : Sky B (X.env :: X.outer) a (Zc cls d) X.env.locals s'.heap := by rw [← hs]; exact sky
    refine (show wpAny (model X.prog X.w) X.A (noteFrame (.ref a) X.env) _ _ _ from Sky.land Zc.steady hfr hf sky' fun h3 fl3 up3 => ?_)
    have J3 : Inv X pins σ' H' { s' with heap := h3 } := J.landed nb fl3.1 (up.trans up3) os ag
    obtain ⟨oe3, vs3, he3, hz3, hd3⟩ := fl3.there
    have nfr : a ∉ frs (X.env :: X.outer) := fun hm => by
      obtain ⟨_, o', e', hnf⟩ := fl3.2.2.1.mem hm
      rw [he3] at e'
      cases e'
      exact hnf _ hd3
    have nL : a ≠ X.env.locals := fun z => nfr (List.mem_filterMap.mpr ⟨X.env, List.mem_cons_self, by rw [hf, z]⟩)
    have nF : a ∉ X.fs := fun hm => by
      obtain ⟨e, he, q⟩ := List.mem_filterMap.mp hm
      exact nfr (List.mem_filterMap.mpr ⟨e, List.mem_cons_of_mem _ he, q⟩)
    have S3 := J3.suite he3 hd3 na nL nF
    have test : ∀ {x : Str} {c : Value} {np : Pos} {b : Bool} {Q : Bool → Shared → Prop} {E : Value → Shared → Prop}, Names X x c → PySem.W.exmOne X.K cls c = some b → ∀ {Q : Value → Shared → Prop} {E : Value → Shared → Prop}, Q c { s' with heap := h3 } → wpAny (model X.prog X.w) (X.A.mark (some (.ref a))) (eval (.Name x np) X.env) Q E { s' with heap := h3 } := fun {x c np b Q E} hc _ Q E q => by
      obtain ⟨hg, hdbg, hm | ⟨hm, hv, hnn⟩⟩ := hc
      · exact ld_glob (X := X.suite a ((a, oe3) :: (X.pn ++ pins))) S3 hg hm q hdbg
      · exact ld_blt (X := X.suite a ((a, oe3) :: (X.pn ++ pins))) S3 hg hm hv q hnn hdbg
    have LT : PySem.W.Looks (model X.prog X.w) h3 (typeOf (.ref a)) cls := fun A Q E s k q => wpAny_typeOf_ref (k _ _ he3) (by rw [hz3.1]; exact q)
    have go : ∀ {hds' : List ExceptHandler} {l' : List Cla}, HG X hds' l' → wG X.K Wout D l' cls d σ' H' → wpAny (model X.prog X.w) X.A (handleBy (.ref a) X.env hds') (SP X pins D) X.xe { s' with heap := h3 } := by
      intro hds' l' hk
      induction hk with
      | nil =>
        intro w
        refine wpAny_handleBy_nil ?_
        obtain ⟨k1, k2, k3, oe, vs, T, oT, ts', he, hz, hd, h1, hr⟩ := id fl3
        unfold PySem.passOn
        refine wpAny_bind (wpAny_field he hd h1 ?_)
        rw [if_neg (fun z : (Value.ref T == Value.none) = true => Bool.noConfusion z)]
        have fin : wpAny (model X.prog X.w) X.A (setFlight (.ref a) X.env.frame) (fun _ s4 => wpAny (model X.prog X.w) X.A (throw (.ref a) : Sem Flow) (SP X pins D) X.xe s4) X.xe { s' with heap := h3 } := by
          rw [hf]
          exact HandSPX.setFlight_upZ fl3 fun h4 hh4 up4 => wpAny_throw (tk _ _ ⟨a, B, sI, pins, σ', H', cls, d, rfl, J, nb, (up.trans up3).trans up4, .inr (.inr (by rw [hs]; exact hh4)), na, os, ag, w⟩)
        first
          | exact wpAny_bind (wpAny_pure (wpAny_bind fin))
          | exact wpAny_bind fin
      | @bare x c ts b₀ suite np pos' hds2 l2 hc hsu r ih =>
        rintro ⟨b, hb1, hyes, hno⟩
        refine wpAny_handleBy_cons (codeAny_handlers_test ?_) (by intro q; cases q)
        have LM := PySem.W.exm_one (M := model X.prog X.w) (J3.kIn) LT hb1
        refine test (b := b) (Q := fun _ _ => True) (E := fun _ _ => True) hc hb1 (LM.here ?_)
        cases b with
        | false => exact (show wpAny _ X.A (handleBy (.ref a) X.env hds2) _ _ _ from ih (hno rfl))
        | true =>
          refine codeAny_handlers_suite (HandSPX.lands_againZ fl3 fun h4 fl4 up4 => ?_)
          have J4 : Inv X pins σ' H' { s' with heap := h4 } := J.landed nb fl4.1 ((up.trans up3).trans up4) os ag
          obtain ⟨oe4, vs4, he4, hz4, hd4⟩ := fl4.there
          refine wpAny_mono ((hsu a oe4 cls d (X.pn ++ pins) hz4 ⟨_, hd4⟩).run [] _ _ H' _ (J4.suite he4 hd4 na nL nF) (hyes rfl a na)) (fun f s6 hsp => ?_) (fun _ _ z => False.elim z)
          cases f <;> first
            | (obtain ⟨v6, σ6, H6, S6, r6, q6⟩ := hsp; exact ⟨_, _, _, S6.unsuite ok, r6, q6⟩)
            | (obtain ⟨σ6, H6, S6, q6⟩ := hsp; exact ⟨_, _, S6.unsuite ok, q6⟩)
      | @named x n i c ts b₀ suite np pos' hds2 l2 hi hln hc hsu r ih =>
        rintro ⟨b, hb1, hyes, hno⟩
        refine wpAny_handleBy_cons (codeAny_handlers_test ?_) (by intro q; cases q)
        have LM := PySem.W.exm_one (M := model X.prog X.w) (J3.kIn) LT hb1
        refine test (b := b) (Q := fun _ _ => True) (E := fun _ _ => True) hc hb1 (LM.here ?_)
        cases b with
        | false => exact (show wpAny _ X.A (handleBy (.ref a) X.env hds2) _ _ _ from ih (hno rfl))
        | true =>
          refine codeAny_handlers_suite_as (HandSPX.lands_againZ fl3 fun h4 fl4 up4 => ?_)
          have J4 : Inv X pins σ' H' { s' with heap := h4 } := J.landed nb fl4.1 ((up.trans up3).trans up4) os ag
          obtain ⟨oe4, vs4, he4, hz4, hd4⟩ := fl4.there
          have S4 := J4.suite he4 hd4 na nL nF
          refine store_ok (X := X.suite a ((a, oe4) :: (X.pn ++ pins))) (v := .ref a) S4 hN hi (.inl hln) rfl (fun s5 S5 => ?_) (.inr hln)
          refine wpAny_mono ((hsu a oe4 cls d (X.pn ++ pins) hz4 ⟨_, hd4⟩).run [] s5 _ H' _ S5 (hyes rfl a na)) (fun f s6 hsp => ?_) (fun _ _ z => False.elim z)
          have off : ∀ {σ6 : L2.St} {H6 : Hp} {Q : Shared → Prop}, Inv (X.suite a ((a, oe4) :: (X.pn ++ pins))) [] σ6 H6 s6 → (∀ s7, Inv X pins (σ6.set i none) H6 s7 → Q s7) →
              wpAny (model X.prog X.w) X.A (do bindName X.env n .none; unbindBehindTheSuite X.env n pos') (fun _ s7 => Q s7) X.xe s6 := fun {σ6 H6 Q} S6 hq => gone_ok (S6.unsuite ok) hN hi hln hq
          cases f <;> first
            | (obtain ⟨v6, σ6, H6, S6, r6, q6⟩ := hsp; exact off S6 fun s7 J7 => ⟨_, _, _, J7, r6, q6⟩)
            | (obtain ⟨σ6, H6, S6, q6⟩ := hsp; exact off S6 fun s7 J7 => ⟨_, _, J7, q6⟩)
    exact go hh w
  · cases f <;> first
      | (obtain ⟨v, σ', H', J', r, q⟩ := hsp; exact ⟨v, σ', H', J'.ofTry ok, r, q⟩)
      | (obtain ⟨σ', H', J', q⟩ := hsp; first | exact ⟨σ', H', J'.ofTry ok, q⟩ | exact wpAny_execs_nil ⟨σ', H', J'.ofTry ok, q⟩)
end
end LL

set_option Elab.async false
set_option linter.all false
set_option maxRecDepth 100000
set_option maxHeartbeats 4000000
/-! LLv: raise and try, read. -/
namespace LL
open PySem L2
variable [Cs]
section
variable {K : PySem.W.Frag} {ce : Nat → Option Addr} {Wx : WX} {C : CT} {φ : List Addr} {Z : Addr → Prop} {st : ST} {σ : L2.St} {H : Hp}
theorem Rel.inφ (r : Rel K φ Z st σ H) {a : Addr} (h : a ∈ φ) : ∃ o, H a = some o := by
  obtain ⟨n, hn, e⟩ := List.mem_iff_getElem.mp h
  have hs : n < st.sto.length := by rw [← r.sto.len]; exact hn
  have q := r.sto.obj n a _ (by rw [List.getElem?_eq_getElem hn, e]) (List.getElem?_eq_getElem hs)
  obtain ⟨vs, ⟨o, q, _⟩, _⟩ := q
  exact ⟨o, q⟩
theorem Rel.inAV (r : Rel K φ Z st σ H) {a : Addr} (h : AV Z st.env σ a) : ∃ o, H a = some o := by
  rcases h with h | ⟨i, kk, us, e1, e2⟩
  · exact r.zd a h
  · obtain ⟨b, vs, e3, _, ⟨o, h, _⟩, _⟩ := slot_own r e1
    rw [e2] at e3
    cases e3
    exact ⟨_, h⟩
theorem fld_rep {φ A H} : ∀ {fs : List Str} {ws : List W} {vs : List V} {aw : List (Str × W)} {av : List (Str × V)}, Reps K φ A H ws vs → (∀ f w, aw.lookup f = some w → ∃ v, av.lookup f = some v ∧ Rep K φ A H w v) →
    ∀ f w, ((fs.zip ws).reverse ++ aw).lookup f = some w → ∃ v, ((fs.zip vs).reverse ++ av).lookup f = some v ∧ Rep K φ A H w v
  | [], ws, vs, aw, av, _, h, f, w, e => by simpa using h f w (by simpa using e)
  | g :: fs, [], vs, aw, av, r, h, f, w, e => by
    have : vs = [] := List.length_eq_zero_iff.mp r.length
    subst this
    simpa using h f w (by simpa using e)
  | g :: fs, x :: ws, vs, aw, av, r, h, f, w, e => by
    unfold Reps at r
    obtain ⟨v, us, rfl, rv, rr⟩ := r
    have ih := fld_rep (fs := fs) (aw := (g, x) :: aw) (av := (g, v) :: av) rr (fun f' w' e' => by
      rw [List.lookup_cons] at e' ⊢
      cases hg : f' == g with
      | true =>
        rw [hg] at e'
        cases e'
        exact ⟨v, rfl, rv⟩
      | false =>
        rw [hg] at e'
        exact h f' w' e') f w (by simpa using e)
    simpa using ih
theorem st_rse {c : Nat} {fs : List Str} {a : IA} {Cc : Addr} (hce : ce c = some Cc) : ∀ D σ H, tIS K ce Wx (evS C (.rse c fs a)) D σ H → tMkE Cc fs (tAr K ce Wx (evA C a)) σ H fun cls d H' => Wx cls d σ H' := by
  rintro D σ H ⟨b, φ, st, s, o⟩
  simp only [evS] at o
  refine ⟨φ, b.Z, st, s.rel, out_of s o fun ws st1 φ1 H1 e1 t o1 rel1 vs rs => ?_⟩
  cases hl : ws.length == fs.length with
  | false => rw [hl] at o1; exact o1.elim
  | true =>
    rw [hl] at o1
    have hl' : ws.length = fs.length := by simpa using hl
    have s1 := s.step t rel1
    refine ⟨by rw [rs.length]; exact hl', fun d hd => ?_⟩
    have nn : ∀ {P : Prop}, (∃ o, H1 d = some o) → P := fun ⟨o, z⟩ => by rw [hd] at z; cases z
    refine o1 φ1 σ _ (.ref Cc) (some d) ⟨rel1.upd hd, s1.ext.trans (Ext.upd (B := fun _ => False) hd) fun _ z => z.elim, s1.own⟩ ⟨⟨Cc, hce, rfl⟩, fun f w hf => ?_, fun dd hdd => by cases hdd; exact ⟨_, upd_same⟩⟩
    obtain ⟨v, hv, rv⟩ := fld_rep (fs := fs) (aw := []) (av := []) rs (fun _ _ e => by cases e) f w (by simpa using hf)
    exact ⟨d, _, v, rfl, upd_same, fun m => nn (rel1.inφ m), fun z => nn (rel1.inAV z), by simpa using hv, rv.ext (Ext.upd (B := fun _ => False) hd) fun _ z => z.elim⟩
end
end LL

set_option Elab.async false
set_option linter.all false
set_option maxRecDepth 100000
set_option maxHeartbeats 4000000
/-! LLy: isinstance of a caught error that has fields of its own. -/
namespace LL
open PySem PySem.W PySem.Spec PySem.Calls PyProof.Rows
section
variable {prog : Program} {w : World} {A : Around} {E : Value → Shared → Prop} {s : Shared} {K : Frag} {x D : Addr} {ox : Obj} {od : Option Obj}
theorem findObj_dataO {C : Addr} {name : Str} {a g : Value} (hc : (clsIn K C).isSome = true) (ha : findIn K (.ref C) name = some (some a)) (hg : specialIn K a "__get__" = some (some g)) (ht : takesIn K a = some true) : findObj K C od name = some (.bind g a) := by
  obtain ⟨cd, hc⟩ := Option.isSome_iff_exists.mp hc
  unfold findObj
  rw [hc, Option.bind_some, ha, Option.bind_some]
  simp [hg, ht]
theorem class_ofE {Q : Option Value → Shared → Prop} (hga : findIn K (.ref D) "__getattribute__" = some (some (.builtin "BaseException.__getattribute__"))) (hgt : findIn K (.ref D) "__getattr__" = some none) (hsub : subIn K (.ref D) (.type "BaseException") = some true)
    (hdct : hasDictIn K D = true) (ha : findIn K (.ref D) "__class__" = some (some (.builtin "object.__class__")))
    (hn : specialIn K (.builtin "object.__class__") "__get__" = some (some (.builtin "getset_descriptor.__get__"))) (htk : takesIn K (.builtin "object.__class__") = some true) (hm : mroIn K D (.type "object") = some true)
    (X : K.In s.heap) (I : InstAt s.heap x ox D od) (h : Q (some (.ref D)) { s with toks := s.toks + 1 }) : wpAny (model prog w) A (getAttr? (.ref x) "__class__") Q E s := by
  have hf : findObj K D od "__class__" = some (.bind (.builtin "getset_descriptor.__get__") (.builtin "object.__class__")) := findObj_dataO (by obtain ⟨cd, hc, _⟩ := any_some hdct; rw [hc]; rfl) ha hn htk
  obtain ⟨hp, g, d, t, os⟩ := s
  have L0 := I.type (M := model prog w)
  have L1 := looks_findIn (M := model prog w) X hga
  have L2 := looks_findIn (M := model prog w) X hgt
  have L3 := looks_find (M := model prog w) X I hf
  have sub : Looks (model prog w) hp (isInstance (.ref x) (.type "BaseException")) true := L0.andThen (looks_subIn X hsub)
  have hx0 : (false && onTheHeap (Value.builtin "BaseException.__getattribute__")) = false := rfl
  have hx2 : (Value.builtin "BaseException.__getattribute__" == Value.builtin "object.__getattribute__") = false := by decide +kernel
  have hx1 : (onTheHeap (Value.ref D) && Value.builtin "BaseException.__getattribute__" == Value.builtin "object.__getattribute__") = false := by rw [hx2]; rfl
  unfold getAttr? getAttrBy? getAttrBy
  refine wpAny_bind (wpAny_mkText (wpAny_bind (wpAny_attempt (wpAny_holding (wpAny_bind (L0.at (wpAny_bind (L1.at ?_))))))))
  show wpAny _ _ (if (onTheHeap (Value.ref D) && Value.builtin "BaseException.__getattribute__" == Value.builtin "object.__getattribute__") = true then _ else _) _ _ _
  rw [hx1, if_neg Bool.false_ne_true]
  unfold getAttrByItsOwn hookBefore
  refine wpAny_bind ?_
  rw [if_pos (show onTheHeap (Value.ref D) = true from rfl)]
  refine L2.at ?_
  refine wpAny_bind (wpAny_attempt (wpAny_holding ?_))
  unfold callGetattribute
  rw [hx0, if_neg Bool.false_ne_true]
  unfold boundAndCalled
  rw [PySem.F.excAttr_ValueError.ga.bind (.ref x)]
  refine wpAny_bind (wpAny_pure ?_)
  show wpAny _ _ (call (.builtin "BaseException.__getattribute__") [.ref x, .str "__class__" t]) _ _ _
  refine wpAny_call (codeAny_call_builtin PySem.F.excAttr_ValueError.ga.plain PySem.F.entry_bexc_ga ?_)
  refine @check_slot (model prog w) _ _ ⟨hp, g, d, t + 1, os⟩ "BaseException.__getattribute__" "BaseException" "__getattribute__" (.ref x) [.str "__class__" t] [] _ (by decide +kernel) (by decide +kernel) sub (PySem.F.args_bexc_ga (.ref x) (.str "__class__" t)) ?_
  unfold Builtin.«object.__getattribute__»
  refine wpAny_bind (wpAny_of_eq (a := ((Value.ref x : Value), [Value.str "__class__" t])) (by first | rfl | (simp only [slotArgs]; rfl)) ?_)
  refine wpAny_bind (wpAny_pure (wpAny_bind (L0.at (wpAny_bind (L3.at ?_)))))
  show wpAny _ _ (holding [Value.builtin "object.__class__"] (call (.builtin "getset_descriptor.__get__") [.builtin "object.__class__", .ref x, .ref D]) >>= ret) _ _ _
  refine wpAny_bind (wpAny_holding (wpAny_call (class_get (s := ⟨hp, g, d, t + 1, os⟩) (ox := ox) (od := od) X I hm ?_)))
  refine wpAny_pure ?_
  show wpAny _ _ (handedOut (.ref D)) _ _ _
  rw [handedOut_of (v := .ref D) rfl]
  first
    | exact wpAny_pure (wpAny_pure h)
    | exact wpAny_pure h
    | exact wpAny_pure (wpAny_bind (wpAny_pure (wpAny_pure h)))
theorem kitx_ofE (c : L2.ExcC K D) : KitX K (.ref x) (.ref D) (fun h => InstAt h x ox D od) where
  ty := fun _ _ _ I => I.type
  it := fun _ _ X _ => by
    obtain ⟨cdD, hcD, _⟩ := any_some c.hd
    unfold clsIn at hcD
    split at hcD
    · rename_i c' d' cd' sl' ho
      intro A' Q' E' s' k q
      unfold isType loadHead
      exact wpAny_bind (wpAny_loadPart (k _ _ (X _ _ ho)) (wpAny_pure q))
    · cases hcD
  ne := fun h tp dd its n sl X htp => by
    obtain ⟨cdD, hcD, _⟩ := any_some c.hd
    refine Bool.eq_false_iff.mpr fun q => ?_
    have e : D = tp := Value.ref.inj (beq_iff_eq.mp q)
    subst e
    unfold clsIn at hcD
    split at hcD
    · rename_i c' d' cd' sl' ho
      have z := (X _ _ ho).symm.trans htp
      cases z
    · cases hcD
  ca := fun X I k => class_ofE c.hg c.hk c.hs c.hd c.ha c.hn c.ht c.hm X I k
end
open L2 in
/-- isinstance(e, c), e the exception that the suite holds, with fields or without -/
theorem call_isED {X : Cx} {a D : Addr} {oe : Obj} {pn : List (Addr × Obj)} {d : Option Addr} (C : ExcC X.K D) (hz : Zc (.ref D) d oe) (hf : ∃ vs, oe.data = .fields vs) :
    CallR (X.suite a ((a, oe) :: pn)) (.builtin "isinstance") (fun xs H Q => rIsE X.K D a xs H Q ∧ ∀ dd, d = some dd → ∃ fs, H dd = some (.xd fs)) := by
  intro pins s σ H xs us Q I r h
  obtain ⟨⟨c, cv, b, rfl, hcv, e, q⟩, hd⟩ := h
  cases r with
  | cons rx rr =>
    cases rr with
    | cons rt rr =>
      cases rr
      cases rx
      have ec := hcv _ rt
      subst ec
      obtain ⟨hget, _⟩ := I.pin (a, oe) (List.mem_append.mpr (.inl List.mem_cons_self))
      obtain ⟨vs, hv⟩ := hf
      have J : ∃ od, PySem.W.InstAt s.heap a oe D od := by
        obtain ⟨oc, od, oda, osl⟩ := oe
        obtain ⟨h1, h2⟩ := hz
        dsimp only at h1 h2 hv
        subst h1 h2 hv
        cases od with
        | none => exact ⟨none, hget, rfl, rfl, trivial⟩
        | some dd =>
          obtain ⟨fs, hfs⟩ := hd dd rfl
          obtain ⟨mA, ⟨o, es, ep, e2, _⟩, _⟩ := I.hok dd _ hfs
          exact ⟨some o, hget, rfl, rfl, e2⟩
      obtain ⟨od, J⟩ := J
      exact PySem.W.kia_one (kitx_ofE C) I.kIn J e (fun z => nomatch z) fun tk => ⟨.bl b, H, I.kept (t' := tk) fun _ _ z => z, rfl, q⟩
end LL

set_option Elab.async false
set_option linter.all false
set_option maxRecDepth 100000
set_option maxHeartbeats 4000000
/-! LLw: what an except suite reckons. -/
namespace LL
open PySem L2
variable [Cs]
section
variable (K : PySem.W.Frag) (nv : Str → V)
mutual
def tHE (a : Addr) (cls : Value) (d : Option Addr) (Cc : Addr) (i : Nat) : HE → TE
  | .non => tC .non
  | .bl b => tC (.bl b)
  | .int n => tC (.int n)
  | .str s => tC (.str s)
  | .fld f => tXf a cls d Cc f (tVar i)
  | .tup l => tTup (tHEs a cls d Cc i l)
  | .isE x _ => fun σ H Q => cls = .ref Cc ∧ tCB (fun xs H Q => rIsE K Cc a xs H Q ∧ ∀ dd, d = some dd → ∃ fs, H dd = some (.xd fs)) (tCons (tVar i) (tCons (tC (nv x)) tNil)) σ H Q
  | .andH x y => tAndV (tHE a cls d Cc i x) (tHE a cls d Cc i y)
def tHEs (a : Addr) (cls : Value) (d : Option Addr) (Cc : Addr) (i : Nat) : List HE → TA
  | [] => tNil
  | e :: r => tCons (tHE a cls d Cc i e) (tHEs a cls d Cc i r)
end
end
mutual
/-- the words are words; where nothing names the exception its fields are not asked -/
def heOk (nf : Bool) : HE → Bool
  | .str s => PyData.strOk s
  | .fld _ => !nf
  | .tup l => hesOk nf l
  | .isE _ _ => !nf
  | .andH a b => heOk nf a && heOk nf b
  | _ => true
def hesOk (nf : Bool) : List HE → Bool
  | [] => true
  | e :: r => heOk nf e && hesOk nf r
end
mutual
def heIs (isl : List (Str × Bool)) : HE → Bool
  | .tup l => hesIs isl l
  | .isE x b => decide ((x, b) ∈ isl)
  | .andH a b => heIs isl a && heIs isl b
  | _ => true
def hesIs (isl : List (Str × Bool)) : List HE → Bool
  | [] => true
  | e :: r => heIs isl e && hesIs isl r
end
section
variable (N : List Str) (i : Nat) (sc : Scope) (fs : List Str) (isl : List (Str × Bool))
mutual
def heC : HE → Expr → Bool
  | .non, e => match e with
    | .Constant .none _ _ => true
    | _ => false
  | .bl b, e => match e with
    | .Constant (.bool c) _ _ => decide (b = c)
    | _ => false
  | .int n, e => match e with
    | .Constant (.int m) _ _ => decide (n = m)
    | .UnaryOp .USub (.Constant (.int m) _ _) _ => decide (n = -m)
    | _ => false
  | .str s, e => match e with
    | .Constant (.str t) _ _ => decide (s = t) && PyData.strOk s
    | _ => false
  | .fld f, e => match e with
    | .Attribute (.Name x _) g _ => decide (N[i]? = some x) && vis sc x && okName x && decide (f = g) && fs.contains f
    | _ => false
  | .tup l, e => match e with
    | .Tuple es _ _ => heCs l es
    | _ => false
  | .isE z b, e => match e with
    | .Call (.Name x _) [.Name y _, .Name z' _] [] _ => decide (x = "isinstance") && glb sc x && decide (N[i]? = some y) && vis sc y && okName y && decide (z' = z) && glb sc z && okName z && decide ((z, b) ∈ isl)
    | _ => false
  | .andH a b, e => match e with
    | .BoolOp .And [x, y] _ => heC a x && heC b y
    | _ => false
def heCs : List HE → List Expr → Bool
  | [], [] => true
  | e :: r, x :: xs => heC e x && notStar x && heCs r xs
  | _, _ => false
end
end
section
/-- the names that isinstance is asked with, in the suites for the class at Cc -/
def NmOk (X : Cx) (nv : Str → V) (Cc : Addr) (isl : List (Str × Bool)) : Prop := isl ≠ [] → ExcC X.K Cc ∧ X.mg "isinstance" = none ∧ ∀ x b, (x, b) ∈ isl → ∃ v, RelV (nv x) v ∧ (∀ u, RelV (nv x) u → u = v) ∧ (X.mg x = some v ∨ (X.mg x = none ∧ bootBuiltins x = some v ∧ x ≠ "__name__")) ∧ PySem.W.kitOne X.K (.ref Cc) v = some b
variable {X : Cx} {N : List Str} {i : Nat} {sc : Scope} {fs : List Str} {isl : List (Str × Bool)} {nv : Str → V} {a Cc : Addr} {oe : Obj} {cls : Value} {d : Option Addr} {pn : List (Addr × Obj)}
mutual
theorem pe_he (hN : X.N = N) (hv : ∀ x, vis sc x = true → Vis X.env.scope x) (hG : ∀ x, glb sc x = true → Gl X x) (NI : NmOk X nv Cc isl) (T : fs ≠ [] → XfC X.K Cc) (hno : ∀ f ∈ fs, PySem.W.findIn X.K (.ref Cc) f = some none) (hz : Zc cls d oe) (hf : ∃ vs, oe.data = .fields vs) :
    ∀ (e : HE) (x : Expr), heC N i sc fs isl e x = true → PE (X.suite a ((a, oe) :: pn)) x (tHE X.K nv a cls d Cc i e)
  | .non, x, h => by
    simp only [heC] at h
    split at h <;> first | exact pe_non | cases h
  | .bl b, x, h => by
    simp only [heC] at h
    split at h
    · obtain rfl := of_decide_eq_true h
      exact pe_bl
    · cases h
  | .int n, x, h => by
    simp only [heC] at h
    split at h
    · obtain rfl := of_decide_eq_true h
      exact pe_int
    · obtain rfl := of_decide_eq_true h
      exact PE.imp (pe_un un_neg pe_int) fun σ H Q q => ⟨_, rfl, q⟩
    · cases h
  | .str s, x, h => by
    simp only [heC] at h
    split at h
    · simp only [Bool.and_eq_true, decide_eq_true_eq] at h
      obtain ⟨rfl, _⟩ := h
      exact pe_str
    · cases h
  | .fld f, x, h => by
    simp only [heC] at h
    split at h
    · simp only [Bool.and_eq_true, decide_eq_true_eq] at h
      obtain ⟨⟨⟨⟨h1, h2⟩, h3⟩, rfl⟩, h5⟩ := h
      obtain ⟨n1, n2, _⟩ := names_of h3
      have hm : f ∈ fs := by simpa using h5
      exact pe_xf (X := X) (T fun z => by rw [z] at hm; cases hm) (hno _ hm) hz hf (pe_var (X := X.suite a ((a, oe) :: pn)) (by show X.N[i]? = _; rw [hN]; exact h1) (hv _ h2) n1 n2)
    · cases h
  | .tup l, x, h => by
    simp only [heC] at h
    split at h
    · exact pe_tup (pa_he hN hv hG NI T hno hz hf l _ h)
    · cases h
  | .isE z b, x, h => by
    simp only [heC] at h
    split at h
    · rename_i x1 p1 y1 p2 z1 p3 p4
      simp only [Bool.and_eq_true, decide_eq_true_eq] at h
      obtain ⟨⟨⟨⟨⟨⟨⟨⟨rfl, h2⟩, h3⟩, h4⟩, h5⟩, rfl⟩, h7⟩, h8⟩, h9⟩ := h
      obtain ⟨n1, n2, _⟩ := names_of h5
      obtain ⟨m1, _, _⟩ := names_of h8
      obtain ⟨hE, hm, hI⟩ := NI fun z => by rw [z] at h9; cases h9
      obtain ⟨v, rv, uv, gv, _⟩ := hI _ _ h9
      refine ⟨fun pins s σ H Q I q => ?_⟩
      obtain ⟨q0, q⟩ := q
      have hz' : Zc (.ref Cc) d oe := by rw [← q0]; exact hz
      have nm : PE (X.suite a ((a, oe) :: pn)) (.Name z1 p3) (tC (nv z1)) := by
        rcases gv with g | ⟨g1, g2, g3⟩
        · exact pe_glob (hG _ h7) g rv m1
        · exact pe_bltn (hG _ h7) g1 g2 rv g3 m1
      exact (pe_callB (X := X.suite a ((a, oe) :: pn)) (call_isED (d := d) hE hz' hf) (hG _ h2) hm (by decide +kernel) (pa_cons (pe_var (X := X.suite a ((a, oe) :: pn)) (by show X.N[i]? = _; rw [hN]; exact h3) (hv _ h4) n1 n2) (pa_cons nm pa_nil)) (by decide +kernel) (by decide +kernel)).run pins s σ H Q I q
    · cases h
  | .andH p q, x, h => by
    simp only [heC] at h
    split at h
    · simp only [Bool.and_eq_true] at h
      exact pe_and (pe_he hN hv hG NI T hno hz hf p _ h.1) (pe_one (pe_he hN hv hG NI T hno hz hf q _ h.2))
    · cases h
theorem pa_he (hN : X.N = N) (hv : ∀ x, vis sc x = true → Vis X.env.scope x) (hG : ∀ x, glb sc x = true → Gl X x) (NI : NmOk X nv Cc isl) (T : fs ≠ [] → XfC X.K Cc) (hno : ∀ f ∈ fs, PySem.W.findIn X.K (.ref Cc) f = some none) (hz : Zc cls d oe) (hf : ∃ vs, oe.data = .fields vs) :
    ∀ (l : List HE) (es : List Expr), heCs N i sc fs isl l es = true → PA (X.suite a ((a, oe) :: pn)) es (tHEs X.K nv a cls d Cc i l)
  | [], [], _ => pa_nil
  | [], _ :: _, h => by simp [heCs] at h
  | _ :: _, [], h => by simp [heCs] at h
  | e :: r, x :: xs, h => by
    simp only [heCs, Bool.and_eq_true] at h
    exact pa_cons (pe_he hN hv hG NI T hno hz hf e x h.1.1) (pa_he hN hv hG NI T hno hz hf r xs h.2) (star_of h.1.2)
end
end
section
variable {K : PySem.W.Frag} {φ : List Addr} {A : Addr → Prop} {σ : L2.St} {a Cc : Addr} {d : Option Addr} {i : Nat} {fl : Flds}
/-- the fields that lie in the exception's dict -/
def FR (K : PySem.W.Frag) (φ : List Addr) (A : Addr → Prop) (H : Hp) (fl : Flds) (d : Option Addr) : Prop := (∀ f w, fl.lookup f = some w → ∃ dd xs v, d = some dd ∧ H dd = some (.xd xs) ∧ dd ∉ φ ∧ ¬ A dd ∧ xs.lookup f = some v ∧ Rep K φ A H w v) ∧ ∀ dd, d = some dd → ∃ xs, H dd = some (.xd xs)
/-- only new things -/
def Grw (H H' : Hp) : Prop := ∀ a o, H a = some o → H' a = some o
theorem Grw.rf {H : Hp} : Grw H H := fun _ _ h => h
theorem Grw.tr {H H1 H2 : Hp} (g : Grw H H1) (k : Grw H1 H2) : Grw H H2 := fun a o h => k a o (g a o h)
theorem Grw.ext {H H' : Hp} {B : Addr → Prop} (g : Grw H H') : Ext φ B H φ H' := ⟨⟨[], by simp⟩, fun _ h => .inl h, fun a o h => ⟨o, g a o h⟩, fun a xs h => g a _ h, fun a xs h => g a _ h, fun a o h _ _ => g a o h⟩
theorem Rel.grw {Z : Addr → Prop} {st : ST} {H H' : Hp} (r : Rel K φ Z st σ H) (g : Grw H H') : Rel K φ Z st σ H' := by
  have e : Ext φ (fun _ => False) H φ H' := g.ext
  have no : ∀ a, (fun _ => False) a → AV Z st.env σ a := fun _ z => z.elim
  refine ⟨⟨r.sto.len, r.sto.nd, r.sto.av, fun n a so e1 e2 => ?_⟩, r.len, fun j s q => ?_, r.dis, r.hid, fun a z => (r.zd a z).elim fun o q => ⟨o, g a o q⟩⟩
  · have q := r.sto.obj n a so e1 e2
    obtain ⟨vs, ⟨o, q1, q2, q4⟩, q3⟩ := q
    exact ⟨vs, ⟨o, g a _ q1, q2.keep e.mrk, q4⟩, q3.ext e no⟩
  · obtain ⟨v, h1, h2⟩ := r.env j s q
    refine ⟨v, h1, ?_⟩
    cases s with
    | val w =>
      obtain ⟨u, rfl, rr⟩ := h2
      exact ⟨u, rfl, rr.ext e no⟩
    | own kk us =>
      obtain ⟨p, vs, rfl, n1, ⟨o, q1, q2, q4⟩, n4⟩ := h2
      exact ⟨p, vs, rfl, n1, ⟨o, g p _ q1, q2.keep e.mrk, q4⟩, n4.ext e no⟩
theorem FR.ext {H H' : Hp} (h : FR K φ A H fl d) (g : Grw H H') : FR K φ A H' fl d := ⟨fun f w hf => by
  obtain ⟨dd, xs, v, q1, q2, q3, q4, q5, q6⟩ := h.1 f w hf
  exact ⟨dd, xs, v, q1, g dd _ q2, q3, q4, q5, q6.ext (g.ext (B := fun _ => False)) fun _ z => z.elim⟩, fun dd hd => (h.2 dd hd).elim fun xs q => ⟨xs, g dd _ q⟩⟩
mutual
theorem he_ok {nf : Bool} {cls : Value} {nv : Str → V} {isl : List (Str × Bool)} (hI : ∀ x b, (x, b) ∈ isl → ∃ v, (∀ u, RelV (nv x) u → u = v) ∧ PySem.W.kitOne K (.ref Cc) v = some b) (hσ : nf = false → σ[i]? = some (some (.ref a)) ∧ cls = .ref Cc) : ∀ (e : HE) (w : W) (H : Hp) (Q : VK), hev fl e = some w → heOk nf e = true → heIs isl e = true → FR K φ A H fl d → (∀ v H', Grw H H' → Rep K φ A H' w v → Q v H') → tHE K nv a cls d Cc i e σ H Q
  | .non, w, H, Q, h, _, _, _, q => by
    simp only [hev] at h; cases h
    exact q _ H .rf (rep_non.mpr rfl)
  | .bl b, w, H, Q, h, _, _, _, q => by
    simp only [hev] at h; cases h
    exact q _ H .rf (rep_bl.mpr rfl)
  | .int n, w, H, Q, h, _, _, _, q => by
    simp only [hev] at h; cases h
    exact q _ H .rf (rep_int.mpr rfl)
  | .str s, w, H, Q, h, ok, _, _, q => by
    simp only [hev] at h; cases h
    exact q _ H .rf (rep_str.mpr ⟨rfl, by simpa [heOk] using ok⟩)
  | .fld f, w, H, Q, h, ok, _, F, q => by
    simp only [hev] at h
    obtain ⟨hs, hc⟩ := hσ (by simpa [heOk] using ok)
    obtain ⟨dd, xs, v, q1, q2, q3, q4, q5, q6⟩ := F.1 f w h
    exact ⟨_, hs, rfl, hc, dd, xs, v, q1, q2, q5, q v H .rf q6⟩
  | .tup l, w, H, Q, h, ok, ki, F, q => by
    simp only [hev] at h
    cases el : hevs fl l with
    | none => rw [el] at h; cases h
    | some ws =>
      rw [el, Option.bind_some] at h
      split at h
      · rename_i hz
        cases h
        refine hes_ok hI hσ l ws H _ el (by simpa [heOk] using ok) (by simpa [heIs] using ki) F fun vs H' e rs => ⟨?_, fun p hp => ?_⟩
        · rw [rs.length]; exact of_decide_eq_true hz
        · have e2 : Ext φ (fun _ => False) H' φ (upd H' p (.tup vs)) := Ext.upd hp
          have g2 : Grw H' (upd H' p (.tup vs)) := fun b o z => by rw [upd_ne (ne_of_none z hp)]; exact z
          exact q _ _ (e.tr g2) (rep_tup.mpr ⟨p, vs, rfl, ⟨.inl upd_same, by rw [rs.length]; exact of_decide_eq_true hz⟩, rs.ext e2 fun _ z => z.elim⟩)
      · cases h
  | .isE x b, w, H, Q, h, ok, ki, F, q => by
    simp only [hev] at h; cases h
    obtain ⟨hs, hc⟩ := hσ (by simpa [heOk] using ok)
    obtain ⟨v, uv, kv⟩ := hI x b (by simpa [heIs] using ki)
    exact ⟨hc, _, hs, ⟨⟨nv x, v, b, rfl, uv, kv, q _ H .rf (rep_bl.mpr rfl)⟩, F.2⟩⟩
  | .andH x y, w, H, Q, h, ok, ki, F, q => by
    simp only [heOk, Bool.and_eq_true] at ok
    simp only [heIs, Bool.and_eq_true] at ki
    simp only [hev] at h
    cases hx : hev fl x with
    | none => rw [hx] at h; cases h
    | some wx =>
      rw [hx] at h
      cases wx with
      | bl b =>
        refine he_ok hI hσ x _ H _ hx ok.1 ki.1 F fun v H1 e1 rv => ?_
        refine ⟨b, rep_bl.mp rv, ?_⟩
        cases b with
        | true =>
          rw [if_pos rfl]
          exact he_ok hI hσ y w H1 Q h ok.2 ki.2 (F.ext e1) fun v2 H2 e2 rv2 => q v2 H2 (e1.tr e2) rv2
        | false =>
          rw [if_neg Bool.false_ne_true]
          cases h
          exact q _ H1 e1 (rep_bl.mpr rfl)
      | _ => cases h
theorem hes_ok {nf : Bool} {cls : Value} {nv : Str → V} {isl : List (Str × Bool)} (hI : ∀ x b, (x, b) ∈ isl → ∃ v, (∀ u, RelV (nv x) u → u = v) ∧ PySem.W.kitOne K (.ref Cc) v = some b) (hσ : nf = false → σ[i]? = some (some (.ref a)) ∧ cls = .ref Cc) : ∀ (l : List HE) (ws : List W) (H : Hp) (Q : List V → Hp → Prop), hevs fl l = some ws → hesOk nf l = true → hesIs isl l = true → FR K φ A H fl d → (∀ vs H', Grw H H' → Reps K φ A H' ws vs → Q vs H') → tHEs K nv a cls d Cc i l σ H Q
  | [], ws, H, Q, h, _, _, _, q => by
    simp only [hevs] at h; cases h
    exact q [] H .rf .nil
  | e :: r, ws, H, Q, h, ok, ki, F, q => by
    simp only [hevs] at h
    cases he : hev fl e with
    | none => rw [he] at h; cases h
    | some w =>
      rw [he, Option.bind_some] at h
      cases hr : hevs fl r with
      | none => rw [hr] at h; cases h
      | some ws' =>
        rw [hr] at h
        cases h
        simp only [hesOk, Bool.and_eq_true] at ok
        simp only [hesIs, Bool.and_eq_true] at ki
        refine he_ok hI hσ e w H _ he ok.1 ki.1 F fun v H1 e1 rv => ?_
        exact hes_ok hI hσ r ws' H1 _ hr ok.2 ki.2 (F.ext e1) fun vs H2 e2 rs => q (v :: vs) H2 (e1.tr e2) (.cons (rv.ext (e2.ext (B := fun _ => False)) fun _ z => z.elim) rs)
end
end
/-! ### a suite's stores -/
def tsA (K : PySem.W.Frag) (nv : Str → V) (a : Addr) (cls : Value) (d : Option Addr) (Cc : Addr) (i : Nat) : List (Nat × HE) → TS
  | [] => tNext
  | (j, e) :: r => tSeq (tAsg (tHE K nv a cls d Cc i e) (gName j)) (tsA K nv a cls d Cc i r)
def suC (N : List Str) (i : Nat) (nf : Bool) (sc : Scope) (fs : List Str) (isl : List (Str × Bool)) : List (Nat × HE) → List Stmt → Bool
  | [], [] => true
  | (j, e) :: r, s :: ss => (match s with
    | .Assign [.Name x _] v _ => decide (N[j]? = some x) && locl sc x && heC N i sc fs isl e v && heOk nf e && notComp v && (nf || decide (j ≠ i))
    | _ => false) && suC N i nf sc fs isl r ss
  | _, _ => false
theorem pss_suite {X : Cx} {N : List Str} {i : Nat} {nf : Bool} {sc : Scope} {fs : List Str} {isl : List (Str × Bool)} {nv : Str → V} {a Cc : Addr} {oe : Obj} {cls : Value} {d : Option Addr} {pn : List (Addr × Obj)} (hN : X.N = N) (nd : N.Nodup) (hv : ∀ x, vis sc x = true → Vis X.env.scope x) (hl : ∀ x, locl sc x = true → Loc X.env.scope x) (hfn : ∀ x, locl sc x = true → X.fn x = true ∨ X.env.scope.names.lookup x = some .local)
    (hG : ∀ x, glb sc x = true → Gl X x) (NI : NmOk X nv Cc isl) (T : fs ≠ [] → XfC X.K Cc) (hno : ∀ f ∈ fs, PySem.W.findIn X.K (.ref Cc) f = some none) (hz : Zc cls d oe) (hf : ∃ vs, oe.data = .fields vs) :
    ∀ (l : List (Nat × HE)) (ss : List Stmt), suC N i nf sc fs isl l ss = true → PSs (X.suite a ((a, oe) :: pn)) ss (tsA X.K nv a cls d Cc i l)
  | [], [], _ => pss_nil
  | [], _ :: _, h => by simp [suC] at h
  | _ :: _, [], h => by simp [suC] at h
  | (j, e) :: r, s :: ss, h => by
    simp only [suC, Bool.and_eq_true] at h
    obtain ⟨h1, h2⟩ := h
    refine pss_cons ?_ (pss_suite hN nd hv hl hfn hG NI T hno hz hf r ss h2)
    split at h1
    · simp only [Bool.and_eq_true, decide_eq_true_eq] at h1
      obtain ⟨⟨⟨⟨⟨g1, g2⟩, g3⟩, _⟩, g5⟩, _⟩ := h1
      exact ps_set (X := X.suite a ((a, oe) :: pn)) (by show X.N.Nodup; rw [hN]; exact nd) (by show X.N[j]? = _; rw [hN]; exact g1) (hl _ g2) (pe_he hN hv hG NI T hno hz hf e _ g3) (swap_of g5) (hfn _ g2)
    · cases h1
end LL

set_option Elab.async false
set_option linter.all false
set_option maxRecDepth 100000
set_option maxHeartbeats 4000000
/-! LLx: try, read. -/
namespace LL
open PySem L2
variable [Cs]
section
variable {K : PySem.W.Frag} {ce : Nat → Option Addr} {Wx : WX} {C : CT} {b : Bs} {φ : List Addr} {sto : List SO}
theorem off_get {α : Type} {l : List (Option α)} {i k : Nat} {s : α} (h : (l.set i none)[k]? = some (some s)) : k ≠ i ∧ l[k]? = some (some s) := by
  by_cases e : i = k
  · subst e
    by_cases hi : i < l.length
    · rw [List.getElem?_set_self hi] at h; cases h
    · rw [List.getElem?_eq_none (by rw [List.length_set]; omega)] at h; cases h
  · rw [List.getElem?_set_ne e] at h
    exact ⟨fun z => e z.symm, h⟩
theorem S0.off {env : Env'} {σ : L2.St} {H : Hp} {i : Nat} {o : Option V} (s : S0 K b φ ⟨env, sto⟩ σ H) : S0 K b φ ⟨env.set i none, sto⟩ (σ.set i o) H := by
  have pat : ∀ (k : Nat) s', (env.set i none)[k]? = some (some s') → (env[k]? = some (some s') ∧ (σ.set i o)[k]? = σ[k]?) ∨ ∃ w v, s' = .val w ∧ (σ.set i o)[k]? = some (some v) ∧ Rep K φ (AV b.Z env σ) H w v := fun k s' h => by
    obtain ⟨h1, h2⟩ := off_get h
    exact .inl ⟨h2, List.getElem?_set_ne (Ne.symm h1)⟩
  exact ⟨s.rel.patch (e1 := env) (by rw [List.length_set, List.length_set]; exact s.rel.len) pat, s.ext, fun a z => s.own a (OE.patch pat a z)⟩
theorem av_off {Z : Addr → Prop} {env : Env'} {σ : L2.St} {i : Nat} {o : Option V} {a : Addr} (h : AV Z (env.set i none) (σ.set i o) a) : AV Z env σ a := by
  rcases h with h | ⟨k, kk, us, h1, h2⟩
  · exact .inl h
  · obtain ⟨g1, g2⟩ := off_get h1
    rw [List.getElem?_set_ne (Ne.symm g1)] at h2
    exact .inr ⟨k, kk, us, g2, h2⟩
theorem FR.anti {A A' : Addr → Prop} {H : Hp} {fl : Flds} {d : Option Addr} (h : FR K φ A H fl d) (hb : ∀ a, A' a → A a) : FR K φ A' H fl d := ⟨fun f w hf => by
  obtain ⟨dd, xs, v, q1, q2, q3, q4, q5, q6⟩ := h.1 f w hf
  exact ⟨dd, xs, v, q1, q2, q3, fun z => q4 (hb _ z), q5, q6.anti hb⟩, h.2⟩
def sOk (nf : Bool) (i : Nat) (isl : List (Str × Bool)) (l : List (Nat × HE)) : Bool := l.all fun p => heOk nf p.2 && (nf || decide (p.1 ≠ i)) && heIs isl p.2
theorem suite_ok {a Cc : Addr} {cls : Value} {d : Option Addr} {i : Nat} {nf : Bool} {fl : Flds} {nv : Str → V} {isl : List (Str × Bool)} (hI : ∀ x b, (x, b) ∈ isl → ∃ v, (∀ u, RelV (nv x) u → u = v) ∧ PySem.W.kitOne K (.ref Cc) v = some b) : ∀ (l : List (Nat × HE)) (env env' : Env') (σ : L2.St) (H : Hp) (D : Ends), S0 K b φ ⟨env, sto⟩ σ H → FR K φ (AV b.Z env σ) H fl d →
    (nf = false → σ[i]? = some (some (.ref a)) ∧ cls = .ref Cc) → hAsg fl l env = some env' → sOk nf i isl l = true → (∀ σ' H', S0 K b φ ⟨env', sto⟩ σ' H' → D.nx σ' H') → tsA K nv a cls d Cc i l D σ H
  | [], env, env', σ, H, D, s, _, _, e, _, q => by
    simp only [hAsg] at e; cases e
    exact q σ H s
  | (j, x) :: r, env, env', σ, H, D, s, F, hσ, e, ok, q => by
    simp only [hAsg] at e
    simp only [sOk, List.all_cons, Bool.and_eq_true] at ok
    cases hx : hev fl x with
    | none => rw [hx] at e; cases e
    | some w =>
      rw [hx, Option.bind_some] at e
      refine (show tHE K nv a cls d Cc i x σ H _ from he_ok hI hσ x w H _ hx ok.1.1.1 ok.1.2 F fun v H1 g rv => ?_)
      have s1 : S0 K b φ ⟨env, sto⟩ σ H1 := ⟨s.rel.grw g, s.ext.trans (g.ext (B := fun _ => False)) fun _ z => z.elim, s.own⟩
      refine suite_ok hI r (env.set j (some (.val w))) env' (σ.set j (some v)) H1 D (s1.setv rv) ((F.ext g).anti fun p z => z.elim .inl fun o => .inr (OE.patch (set_patch s1.rel.len rv) p o)) (fun h => ?_) e ok.2 q
      obtain ⟨g1, g2⟩ := hσ h
      refine ⟨?_, g2⟩
      have hj : j ≠ i := by
        have := ok.1.1.2
        rw [h] at this
        simpa using this
      rw [List.getElem?_set_ne hj]
      exact g1
/-- a clause of the text and a clause of the small language -/
structure HdAt (K : PySem.W.Frag) (ce : Nat → Option Addr) (nv : Str → V) (h : Hd) (k : Cla) : Prop where
  oi : k.oi = h.oi
  xm : ∀ c Cx, ce c = some Cx → PySem.W.exmOne K (.ref Cx) k.c = some (h.cs.contains c)
  ts : ∃ (i : Nat) (Cc : Addr) (nf : Bool) (isl : List (Str × Bool)), sOk nf i isl h.asg = true ∧ (∀ x b, (x, b) ∈ isl → ∃ v, (∀ u, RelV (nv x) u → u = v) ∧ PySem.W.kitOne K (.ref Cc) v = some b) ∧ (∀ a cls d, k.ts a cls d = tsA K nv a cls d Cc i h.asg) ∧ (nf = false → h.oi = some i ∧ ∃ c0, h.cs = [c0] ∧ ce c0 = some Cc)
theorem hrun_ok {c : Nat} {fs : Flds} {st : ST} {σ : L2.St} {H : Hp} {cls : Value} {d : Option Addr} {D : Ends} {nv : Str → V} (s : S0 K b φ st σ H) (x : ExnR K ce φ (AV b.Z st.env σ) H c fs cls d) :
    ∀ {hs : List Hd} {ks : List Cla}, Paired (HdAt K ce nv) hs ks → OutS K ce Wx b (hRun hs c fs st) D → wG K Wx D ks cls d σ H
  | _, _, .nil, o => o φ σ H cls d s x
  | _, _, @Paired.cons _ _ _ h k hs ks hk hr, o => by
    obtain ⟨⟨Cx, hc, rfl⟩, F⟩ := x
    refine ⟨_, hk.xm c Cx hc, fun hb a ha => ?_, fun hb => ?_⟩
    · unfold hRun at o
      rw [if_pos hb] at o
      obtain ⟨i, Cc, nf, isl, ok, hI, hts, hnf⟩ := hk.ts
      cases hin : inE h.oi st.env with
      | false => rw [hin] at o; exact o.elim
      | true =>
      rw [hin] at o
      rw [if_pos rfl] at o
      cases he : hAsg fs h.asg (offE h.oi st.env) with
      | none => rw [he] at o; exact o.elim
      | some env' =>
        rw [he] at o
        have o' : ∀ φ' σ' H', S0 K b φ' ⟨offE h.oi env', st.sto⟩ σ' H' → D.nx σ' H' := o
        have hcls : nf = false → h.oi = some i ∧ Value.ref Cx = .ref Cc := fun z => by
          obtain ⟨g1, c0, g2, g3⟩ := hnf z
          rw [g2] at hb
          have : c = c0 := by simpa using hb
          rw [this, g3] at hc
          cases hc
          exact ⟨g1, rfl⟩
        unfold Cla.run
        rw [hk.oi, hts]
        cases hoi : h.oi with
        | none =>
          rw [hoi] at he o'
          exact suite_ok hI h.asg st.env env' σ H D s F (fun z => by have := (hcls z).1; rw [hoi] at this; cases this) he ok fun σ' H' s' => o' φ σ' H' s'
        | some j =>
          rw [hoi] at he o'
          refine suite_ok hI h.asg (st.env.set j none) env' (σ.set j (some (.ref a))) H (offI j D) s.off (FR.anti F fun p z => av_off z) (fun z => ?_) he ok fun σ' H' s' => o' φ _ H' s'.off
          obtain ⟨g1, g2⟩ := hcls z
          rw [hoi] at g1
          cases g1
          rw [hoi] at hin
          have hlt : i < σ.length := by rw [← s.rel.len]; exact of_decide_eq_true hin
          exact ⟨List.getElem?_set_self hlt, g2⟩
    · unfold hRun at o
      rw [if_neg (by rw [hb]; exact Bool.false_ne_true)] at o
      exact hrun_ok s ⟨⟨Cx, hc, rfl⟩, F⟩ hr o
theorem st_try {bd : IB} {hs : List Hd} {ks : List Cla} {nv : Str → V} (hh : Paired (HdAt K ce nv) hs ks) : ∀ D σ H, tIS K ce Wx (evS C (.tryE bd hs)) D σ H → tIS K ce (wG K Wx D ks) (evSs C bd) D σ H := by
  rintro D σ H ⟨b, φ, st, s, o⟩
  refine ⟨b, φ, st, s, ?_⟩
  simp only [evS] at o
  cases e : evSs C bd st with
  | exn c fs st1 =>
    rw [e] at o
    exact fun φ' σ' H' cls d s' x => hrun_ok s' x hh o
  | nx st1 => rw [e] at o; exact o
  | brk st1 => rw [e] at o; exact o
  | cnt st1 => rw [e] at o; exact o
  | ret r S => rw [e] at o; exact o
  | bad => rw [e] at o; exact o
end
end LL

set_option Elab.async false
set_option linter.all false
set_option maxRecDepth 100000
set_option maxHeartbeats 4000000
/-! LLm: the check of statements and its soundness. -/
namespace LL
open PySem L2
variable [Cs]

def plainLocal (sc : Scope) (x : Str) : Bool := match sc.names.lookup x with
  | some .local => true
  | _ => false
theorem plainLocal_of {sc : Scope} {x : Str} (h : plainLocal sc x = true) : sc.names.lookup x = some .local := by
  unfold plainLocal at h
  split at h <;> first | assumption | cases h
theorem locl_plain {sc : Scope} {x : Str} (h : plainLocal sc x = true) : locl sc x = true := by
  unfold locl
  rw [plainLocal_of h]
/-- a right side that a name takes -/
inductive Rhs where
  | plain | lc
def notPair : Expr → Bool
  | .Tuple _ _ _ => false
  | _ => true
/-- a comprehension stored at once -/
def swLc (sc : Scope) (x : Str) (px : Pos) : Expr → Bool
  | .ListComp _ _ s pos => plainLocal sc x && (px.line == pos.line) && !(s.names.any fun (n, k) => n == x && (k == .local || k == .cell))
  | _ => false
def isComp : IE → Bool
  | .comp _ _ _ _ _ => true
  | _ => false
def okRhs (sc : Scope) (x : Str) (px : Pos) : Expr → Bool
  | .SetComp _ _ _ _ => false
  | .DictComp _ _ _ _ _ => false
  | .ListComp _ _ s pos => !(plainLocal sc x) || (!(px.line == pos.line) && true)
  | _ => true
/-- what a text's classes of errors are: name and fields; which of them an except clause takes -/
structure ET where
  cl : List (Nat × Str × List Str)
  hm : List (Str × List Nat)
  /-- what isinstance says of an exception of a class -/
  is : List (Nat × List (Str × Bool)) := []
def ET.isl (et : ET) (c : Nat) : List (Str × Bool) := (et.is.lookup c).getD []
def hdC (N : List Str) (et : ET) (sc : Scope) (h : Hd) : ExceptHandler → Bool
  | .ExceptHandler (some (.Name x _)) n (s :: ss) _ => decide ((x, h.cs) ∈ et.hm) && glb sc x && okName x && (match n, h.oi with
    | none, none => suC N N.length true sc [] [] h.asg (s :: ss) && sOk true N.length [] h.asg
    | some y, some i => (match h.cs with
      | [c] => (match et.cl.lookup c with
        | some (_, fs) => decide (N[i]? = some y) && plainLocal sc y && suC N i false sc fs (et.isl c) h.asg (s :: ss) && sOk false i (et.isl c) h.asg
        | none => false)
      | _ => decide (N[i]? = some y) && plainLocal sc y && suC N N.length true sc [] [] h.asg (s :: ss) && sOk true N.length [] h.asg)
    | _, _ => false)
  | _ => false
def hdsC (N : List Str) (et : ET) (sc : Scope) : List Hd → List ExceptHandler → Bool
  | [], [] => true
  | h :: hs, x :: xs => hdC N et sc h x && hdsC N et sc hs xs
  | _, _ => false
section
variable (fn : List (Nat × Str × Nat)) (et : ET) (N : List Str)
mutual
def chS : IS → Scope → Stmt → Bool
  | .asg i e, sc, s => match s with
    | .Assign [.Name x px] v _ => decide (N[i]? = some x) && locl sc x && (chB fn N e).e sc v && (okRhs sc x px v || (swLc sc x px v && isComp e))
    | _ => false
  | .unp l e, sc, s => match s with
    | .Assign [tg] v _ => chG sc N (.tp l) tg && (chB fn N e).e sc v && notPair v
    | _ => false
  | .par i j a b, sc, s => match s with
    | .Assign [.Tuple [.Name x px, .Name y py] _ _] (.Tuple [u, v] _ _) _ => decide (N[i]? = some x) && locl sc x && decide (N[j]? = some y) && locl sc y && decide (i ≠ j) && (chB fn N a).e sc u && notStar u && (chB fn N b).e sc v && notStar v &&
        (if plainLocal sc x && plainLocal sc y then (py.line == px.line) && (([u, v].all (foldedForSure 8)) || !([u, v].all (constantsAlone 8))) else true)
    | _ => false
  | .setI o k e, sc, s => match s with
    | .Assign [.Subscript x y _] v _ => (chB fn N o).e sc x && (chB fn N k).e sc y && notSlice y && (chB fn N e).e sc v
    | _ => false
  | .app i e, sc, s => match s with
    | .Expr (.Call (.Attribute (.Name x _) m ap) [y] [] cp) _ => decide (N[i]? = some x) && vis sc x && okName x && decide (m = "append") && (chB fn N e).e sc y && notStar y && (ap.endLine == cp.line)
    | _ => false
  | .ex e, sc, s => match s with
    | .Expr v _ => (chB fn N e).e sc v && notComp v
    | _ => false
  | .ifS c a b, sc, s => match s with
    | .If t x y _ => (chB fn N c).t sc t && chSs a sc x && chSs b sc y
    | _ => false
  | .whl c a, sc, s => match s with
    | .While t x [] _ => (chB fn N c).t sc t && chSs a sc x
    | _ => false
  | .forS g src a, sc, s => match s with
    | .For tg it x [] _ => chG sc N g tg && chI fn N src sc tg it && notSet it && chSs a sc x
    | _ => false
  | .ret e, sc, s => match s with
    | .Return (some v) _ => (chB fn N e).e sc v
    | _ => false
  | .retN, sc, s => match s with
    | .Return none _ => true
    | _ => false
  | .pass, sc, s => match s with
    | .Pass _ => true
    | .Expr (.Constant (.str _) _ _) _ => true
    | _ => false
  | .brk, sc, s => match s with
    | .Break _ => true
    | _ => false
  | .cnt, sc, s => match s with
    | .Continue _ => true
    | _ => false
  | .nvr, _, _ => true
  | .rse c fs a, sc, s => match s with
    | .Raise (some (.Call (.Name x _) (e :: es) [] _)) none _ => decide (et.cl.lookup c = some (x, fs)) && !fs.isEmpty && glb sc x && okName x && chA fn N a sc (e :: es)
    | _ => false
  | .tryE b hs, sc, s => match s with
    | .Try x (h :: hds) [] [] _ => chSs b sc x && hdsC N et sc hs (h :: hds)
    | _ => false
def chSs : IB → Scope → List Stmt → Bool
  | .nil, _, [] => true
  | .cons s r, sc, x :: xs => chS s sc x && chSs r sc xs
  | _, _, _ => false
end
end
theorem sw_tuple {v : Expr} {es : List Expr} {k : Nat} {p : Pos} {l : Nat} {env : Env} : swapsWith v (some (.Tuple es k p)) l env = pure false := by
  cases v <;> rfl
theorem sw_sub {v o i : Expr} {p : Pos} {l : Nat} {env : Env} : swapsWith v (some (.Subscript o i p)) l env = pure false := by
  cases v <;> rfl
theorem sst_sub {v o i : Expr} {p : Pos} {env : Env} : swappedStores [.Subscript o i p] v env = pure none := by
  cases v <;> rfl
theorem sst_pair {v : Expr} {es : List Expr} {k : Nat} {p : Pos} {env : Env} (h : notPair v = true) : swappedStores [.Tuple es k p] v env = pure none := by
  cases v <;> first | rfl | cases h
theorem sw_ok {sc : Scope} {x : Str} {px : Pos} {v : Expr} {l : Nat} {env : Env} (hsc : env.scope = sc) (h : okRhs sc x px v = true) : swapsWith v (some (.Name x px)) l env = pure false := by
  cases v with
  | ListComp e g s pos =>
    simp only [okRhs, Bool.and_true, Bool.or_eq_true, Bool.not_eq_true'] at h
    unfold swapsWith
    rcases h with h | h
    · have hk : (env.kindOf x == some .local) = false := by
        unfold Env.kindOf
        rw [hsc]
        unfold plainLocal at h
        split at h
        · cases h
        · rename_i q
          cases e : sc.names.lookup x with
          | none => rfl
          | some k =>
            cases k <;> first | rfl | exact (q e).elim
      simp only [hk, Bool.and_false, Bool.false_and]
    · have h' : (px.line == (Expr.ListComp e g s pos).pos.line) = false := h
      simp only [h', Bool.and_false, Bool.false_and]
  | SetComp _ _ _ _ => cases h
  | DictComp _ _ _ _ _ => cases h
  | _ => rfl
section
variable {ce : Nat → Option Addr} {C : CT} {fn : List (Nat × Str × Nat)} {et : ET} {N : List Str} {nv : Str → V}
/-- in a def's body -/
structure Ks (nv : Str → V) (ce : Nat → Option Addr) (C : CT) (fn : List (Nat × Str × Nat)) (et : ET) (N : List Str) (X : Cx) (sc : Scope) (Wx : WX) : Prop where
  k : Kx ce C fn N X sc
  esc : X.env.scope = sc
  kind : X.env.scope.kind = .function
  tk : Takes X Wx
  pas : PassesOwn (model X.prog X.w) X.A X.env X.xe
  fnx : ∀ x, locl sc x = true → X.fn x = true ∨ X.env.scope.names.lookup x = some .local
  stk : X.stack = X.env :: X.outer
  frm : X.env.frame = some X.env.locals
  room : ∃ k, Room k X.A
  cls : ∀ c x fs, et.cl.lookup c = some (x, fs) → ∃ C fI cc cda, ErrTxt X.prog X.K X.mg fs C fI cc cda ∧ X.mg x = some (.ref C) ∧ ce c = some C ∧ XfC X.K C
  hnm : ∀ x cs, (x, cs) ∈ et.hm → ∃ v, (X.mg x = some v ∨ (X.mg x = none ∧ bootBuiltins x = some v ∧ x ≠ "__name__")) ∧ ∀ c Cx, ce c = some Cx → PySem.W.exmOne X.K (.ref Cx) v = some (cs.contains c)
  isn : ∀ c C, ce c = some C → NmOk X nv C (et.isl c)
def SoS (nv : Str → V) (ce : Nat → Option Addr) (C : CT) (fn : List (Nat × Str × Nat)) (et : ET) (N : List Str) (s : IS) : Prop :=
  ∀ (X : Cx) (sc : Scope) (Wx : WX) (a : Stmt), Ks nv ce C fn et N X sc Wx → chS fn et N s sc a = true → PS X a (tIS X.K ce Wx (evS C s))
def SoSs (nv : Str → V) (ce : Nat → Option Addr) (C : CT) (fn : List (Nat × Str × Nat)) (et : ET) (N : List Str) (s : IB) : Prop :=
  ∀ (X : Cx) (sc : Scope) (Wx : WX) (a : List Stmt), Ks nv ce C fn et N X sc Wx → chSs fn et N s sc a = true → PSs X a (tIS X.K ce Wx (evSs C s))
theorem tAsg_imp {te te' : TE} {g : TG} (h : ∀ σ H Q, te' σ H Q → te σ H Q) : ∀ D σ H, tAsg te' g D σ H → tAsg te g D σ H := fun D σ H q => h σ H _ q
theorem ss_asgLc {i : Nat} {elt : IE} {g : TgI} {src : SI} {cond : IE} {has : Bool} {X : Cx} {sc : Scope} {Wx : WX} (k : Ks nv ce C fn et N X sc Wx) {x : Str} {px pos : Pos} {v : Expr} (h1 : N[i]? = some x) (h2 : swLc sc x px v = true)
    (h : (chB fn N (.comp elt g src cond has)).e sc v = true) : PS X (.Assign [.Name x px] v pos) (tAsg (tI X.K ce Wx (evB C (.comp elt g src cond has)).v) (gName i)) := by
  simp only [chB, CB.of] at h
  split at h
  · rename_i e tg it ifs kk scope pos2
    simp only [Bool.and_eq_true, decide_eq_true_eq] at h
    obtain ⟨⟨⟨⟨⟨⟨⟨rfl, h2'⟩, h3⟩, h4⟩, h5⟩, h6⟩, h7⟩, h8⟩ := h
    simp only [swLc, Bool.and_eq_true, Bool.not_eq_true'] at h2
    obtain ⟨⟨g1, g2⟩, g3⟩ := h2
    have hx : X.env.scope.names.lookup x = some .local := by rw [k.esc]; exact plainLocal_of g1
    have blk := blkOk_by h5
    have blk' : BlkOk X.N X.env.scope scope (ckOwn N g) := by
      rw [k.k.hN]
      exact ⟨blk.kind, blk.uniq, blk.ix, fun y hy e => k.k.sf _ (blk.free y hy e), blk.own⟩
    have r := ps_setLc (X := X) (i := i) (y := x) (py := px) (elt := e) (tg := tg) (iter := it) (ifs := ifs) (scope := scope) (own := ckOwn N g) (pos := pos2) (spos := pos) k.k.calm (by rw [k.k.hN]; exact k.k.nd) (by rw [k.k.hN]; exact h1) hx (sw_true k.kind hx g2 g3) (soI src X sc Wx tg it k.k k.tk h2') blk'
      (fun s H c cl fp => tg_chk (X := X.blk s H scope (compEnvC scope cl c X.env) fp) k.k.blk h4) (g := gOf X.K g) (tt := tCond X.K ce C cond has) (te := tI X.K ce (fun _ _ _ _ => False) (evB C elt).v) (fun s H c cl fp => ?_) (fun s H c cl fp => (so elt (X.blk s H scope (compEnvC scope cl c X.env) fp) scope (fun _ _ _ _ => False) e k.k.blk takes0).1 h8) (fold_of h3)
    · rw [h6] at r
      exact PS.imp r (tAsg_imp imp_comp)
    · cases has with
      | true =>
        match ifs, h7 with
        | [], h7 => exact (Bool.false_ne_true h7).elim
        | [d], h7 => exact pts_one ((so cond (X.blk s H scope (compEnvC scope cl c X.env) fp) scope (fun _ _ _ _ => False) _ k.k.blk takes0).2 h7)
        | _ :: _ :: _, h7 => exact (Bool.false_ne_true h7).elim
      | false =>
        match ifs, h7 with
        | [], h7 => exact pts_nil
        | _ :: _, h7 => exact (Bool.false_ne_true h7).elim
  · cases h
theorem lc_comp {e : IE} (h : isComp e = true) : ∃ elt g src cond has, e = .comp elt g src cond has := by
  cases e with
  | comp elt g src cond has => exact ⟨_, _, _, _, _, rfl⟩
  | _ => cases h
/-- name = .. -/
theorem ps_nm {i : Nat} {e : IE} {X : Cx} {sc : Scope} {Wx : WX} (k : Ks nv ce C fn et N X sc Wx) {x : Str} {px pos : Pos} {v : Expr} (h1 : N[i]? = some x) (h2 : locl sc x = true) (h3 : (chB fn N e).e sc v = true) (h4 : okRhs sc x px v = true) : PS X (.Assign [.Name x px] v pos) (tAsg (tI X.K ce Wx (evB C e).v) (gName i)) :=
  ps_set (by rw [k.k.hN]; exact k.k.nd) (by rw [k.k.hN]; exact h1) (k.k.sl _ h2) ((so e X sc Wx v k.k k.tk).1 h3) (sw_ok k.esc h4) (k.fnx _ h2)
theorem ss_asg {i : Nat} {e : IE} : SoS nv ce C fn et N (.asg i e) := fun X sc Wx a k h => by
  unfold chS at h
  split at h
  · simp only [Bool.and_eq_true, Bool.or_eq_true, decide_eq_true_eq] at h
    obtain ⟨⟨⟨h1, h2⟩, h3⟩, h4⟩ := h
    refine PS.imp ?_ st_asg
    rcases h4 with h4 | h4
    · exact ps_nm k h1 h2 h3 h4
    · obtain ⟨elt, g, src, cond, has, rfl⟩ := lc_comp h4.2
      exact ss_asgLc k h1 h4.1 h3
  · cases h
theorem ss_unp {l : List Nat} {e : IE} : SoS nv ce C fn et N (.unp l e) := fun X sc Wx a k h => by
  unfold chS at h
  split at h
  · rename_i tg v pos
    simp only [Bool.and_eq_true] at h
    obtain ⟨⟨h1, h2⟩, h3⟩ := h
    have hg := tg_chk k.k h1
    unfold chG at h1
    split at h1
    · rename_i q; cases q
    · refine PS.imp (ps_asg ((so e X sc Wx v k.k k.tk).1 h2) hg ?_ (sst_pair h3)) st_unp
      unfold swapsWithSole
      exact sw_tuple
    · cases h1
  · cases h
/-! ### two names -/
theorem sst_two {x y : Str} {px py : Pos} {u v : Expr} {k1 k2 : Nat} {p1 p2 : Pos} {env : Env} (hk : env.scope.kind = .function) (hu : notStar u = true) (hv : notStar v = true) (hx : env.scope.names.lookup x = some .local) (hy : env.scope.names.lookup y = some .local) (hl : (py.line == px.line) = true) (hxy : x ≠ y)
    (h1 : [u, v].all (foldedForSure 8) = false) (h2 : [u, v].all (constantsAlone 8) = false) : swappedStores [.Tuple [.Name x px, .Name y py] k1 p1] (.Tuple [u, v] k2 p2) env = pure (some [x, y]) := by
  have kx : env.kindOf x = some .local := hx
  have ky : env.kindOf y = some .local := hy
  have hb : env.blockKind = .function := by unfold Env.blockKind; rw [hk]; rfl
  have ns : ([u, v].any fun | .Starred .. => true | _ => false) = false := by
    cases u <;> first | exact (Bool.false_ne_true hu).elim | (cases v <;> first | exact (Bool.false_ne_true hv).elim | rfl)
  have hd : ([x, y] : List Str).eraseDups = [x, y] := by
    simp [List.eraseDups_cons, Ne.symm hxy, hxy]
  unfold swappedStores
  simp only [ns, hb, kx, ky, Expr.pos, hl, h1, h2, List.filterMap_cons, List.filterMap_nil, List.head?_cons, Option.map_some, Option.getD_some, hd, List.length_cons, List.length_nil]
  simp [hd]
  intro q
  exfalso
  rcases q with q | q
  · cases u <;> first | exact (Bool.false_ne_true hu).elim | exact (Bool.false_ne_true q).elim
  · cases v <;> first | exact (Bool.false_ne_true hv).elim | exact (Bool.false_ne_true q).elim
theorem sst_none {x y : Str} {px py : Pos} {u v : Expr} {k1 k2 : Nat} {p1 p2 : Pos} {env : Env} (hk : env.scope.kind = .function) (hu : notStar u = true) (hv : notStar v = true)
    (h : env.scope.names.lookup x ≠ some .local ∨ env.scope.names.lookup y ≠ some .local ∨ [u, v].all (foldedForSure 8) = true) : swappedStores [.Tuple [.Name x px, .Name y py] k1 p1] (.Tuple [u, v] k2 p2) env = pure none := by
  have hb : env.blockKind = .function := by unfold Env.blockKind; rw [hk]; rfl
  have ns : ([u, v].any fun | .Starred .. => true | _ => false) = false := by
    cases u <;> first | exact (Bool.false_ne_true hu).elim | (cases v <;> first | exact (Bool.false_ne_true hv).elim | rfl)
  have kk : ∀ z : Str, env.scope.names.lookup z ≠ some .local → (env.kindOf z == some .local) = false := fun z hz => by
    unfold Env.kindOf
    cases e : env.scope.names.lookup z with
    | none => rfl
    | some k => cases k <;> first | rfl | exact (hz e).elim
  unfold swappedStores
  simp only [ns, hb, Expr.pos, List.filterMap_cons, List.filterMap_nil, List.head?_cons, Option.map_some, Option.getD_some, List.length_cons, List.length_nil]
  rcases h with h | h | h
  · have := kk x h
    rcases Bool.eq_false_or_eq_true (env.kindOf y == some .local && py.line == px.line) with q | q <;> simp [this, q]
  · have := kk y h
    by_cases q : env.kindOf x = some .local <;> simp [this, q]
  · simp only [h]
    repeat' (first | rfl | split)
theorem ss_par {i j : Nat} {a b : IE} : SoS nv ce C fn et N (.par i j a b) := fun X sc Wx s k h => by
  unfold chS at h
  split at h
  · rename_i x px y py k1 p1 u v k2 p2 pos
    simp only [Bool.and_eq_true, decide_eq_true_eq] at h
    obtain ⟨⟨⟨⟨⟨⟨⟨⟨⟨h1, h2⟩, h3⟩, h4⟩, h5⟩, h6⟩, h7⟩, h8⟩, h9⟩, h10⟩ := h
    have ea := (so a X sc Wx u k.k k.tk).1 h6
    have eb := (so b X sc Wx v k.k k.tk).1 h8
    have hi : X.N[i]? = some x := by rw [k.k.hN]; exact h1
    have hj : X.N[j]? = some y := by rw [k.k.hN]; exact h3
    have nd : X.N.Nodup := by rw [k.k.hN]; exact k.k.nd
    have pa : PA X [u, v] (tCons (tI X.K ce Wx (evB C a).v) (tCons (tI X.K ce Wx (evB C b).v) tNil)) := pa_cons ea (pa_cons eb pa_nil (star_of h9)) (star_of h7)
    have hsw : swapsWithSole [.Tuple [.Name x px, .Name y py] k1 p1] (.Tuple [u, v] k2 p2) pos.line X.env = pure false := rfl
    -- stored through the pair itself
    have thr : swappedStores [.Tuple [.Name x px, .Name y py] k1 p1] (.Tuple [u, v] k2 p2) X.env = pure none → PS X (.Assign [.Tuple [.Name x px, .Name y py] k1 p1] (.Tuple [u, v] k2 p2) pos) (tIS X.K ce Wx (evS C (.par i j a b))) := fun hw => by
      refine PS.imp (ps_asg (pe_tup pa) (pg_tup k.k.calm (pgs_cons (pg_name nd hi (k.k.sl _ h2) (k.fnx _ h2)) (pgs_cons (pg_name nd hj (k.k.sl _ h4) (k.fnx _ h4)) pgs_nil))) hsw hw) fun D σ H q => ?_
      refine (show tTup (tCons (tI X.K ce Wx (evB C a).v) (tCons (tI X.K ce Wx (evB C b).v) tNil)) σ H _ from ?_)
      obtain ⟨φ, Z, st, rel, o⟩ := st_par D σ H q
      refine ⟨φ, Z, st, rel, o.imp fun φ1 Z1 st1 H1 r z v1 rr => ?_⟩
      obtain ⟨φ2, Z2, st2, rel2, o2⟩ := z v1 rr
      refine ⟨φ2, Z2, st2, rel2, o2.imp fun φ3 Z3 st3 H3 r3 z3 v3 rr3 => ⟨by show 2 ≤ sizeLine; decide, fun p hp => ?_⟩⟩
      exact ⟨p, [v1, v3], rfl, .of upd_same, rfl, v1, [v3], rfl, v3, [], rfl, rfl, z3 v3 rr3 _ (.inr ⟨p, _, hp, rfl⟩)⟩
    by_cases c : plainLocal sc x = true ∧ plainLocal sc y = true
    · rw [if_pos c] at h10
      simp only [Bool.and_eq_true, Bool.or_eq_true, Bool.not_eq_true'] at h10
      have lx : X.env.scope.names.lookup x = some .local := by rw [k.esc]; exact plainLocal_of c.1
      have ly : X.env.scope.names.lookup y = some .local := by rw [k.esc]; exact plainLocal_of c.2
      by_cases f : [u, v].all (foldedForSure 8) = true
      · exact thr (sst_none k.kind h7 h9 (.inr (.inr f)))
      · have hxy : x ≠ y := fun e => by
          subst e
          exact h5 ((List.getElem?_inj (List.getElem?_eq_some_iff.mp h1).1 k.k.nd).mp (h1.trans h3.symm))
        have hw := sst_two (px := px) (py := py) (k1 := k1) (k2 := k2) (p1 := p1) (p2 := p2) k.kind h7 h9 lx ly h10.1 hxy (by simpa using f) (h10.2.resolve_left f)
        refine PS.imp (ps_par k.k.calm nd hi hj h5 lx ly pa hw hsw) fun D σ H q => ?_
        obtain ⟨φ, Z, st, rel, o⟩ := st_par D σ H q
        refine ⟨φ, Z, st, rel, o.imp fun φ1 Z1 st1 H1 r z v1 rr => ?_⟩
        obtain ⟨φ2, Z2, st2, rel2, o2⟩ := z v1 rr
        exact ⟨φ2, Z2, st2, rel2, o2.imp fun φ3 Z3 st3 H3 r3 z3 v3 rr3 => ⟨v1, v3, rfl, z3 v3 rr3 _ (.inl rfl)⟩⟩
    · refine thr (sst_none k.kind h7 h9 ?_)
      rw [k.esc]
      by_cases c1 : sc.names.lookup x = some .local
      · refine .inr (.inl fun c2 => c ?_)
        unfold plainLocal
        rw [c1, c2]; exact ⟨rfl, rfl⟩
      · exact .inl c1
  · cases h
/-! ### the others -/
theorem ss_setI {a b e : IE} : SoS nv ce C fn et N (.setI a b e) := fun X sc Wx s k h => by
  unfold chS at h
  split at h
  · rename_i y _ _ _
    simp only [Bool.and_eq_true] at h
    obtain ⟨⟨⟨h1, h2⟩, h3⟩, h4⟩ := h
    refine PS.imp (ps_asg ((so e X sc Wx _ k.k k.tk).1 h4) (pg_sub (soO k.k h1 ((so a X sc Wx _ k.k k.tk).1 h1)) (soO k.k h2 ((so b X sc Wx _ k.k k.tk).1 h2)) set_list ?_) ?_ sst_sub) st_setI
    · intro v; cases y <;> first | rfl | exact (Bool.false_ne_true h3).elim
    · unfold swapsWithSole; exact sw_sub
  · cases h
theorem ss_app {i : Nat} {e : IE} : SoS nv ce C fn et N (.app i e) := fun X sc Wx s k h => by
  unfold chS at h
  split at h
  · simp only [Bool.and_eq_true, decide_eq_true_eq] at h
    obtain ⟨⟨⟨⟨⟨⟨h1, h2⟩, h3⟩, rfl⟩, h5⟩, h6⟩, h7⟩ := h
    obtain ⟨n1, n2, _⟩ := names_of h3
    have hs := star_of (es := []) (env := X.env) h6
    refine PS.imp (ps_expr (pe_bm PySem.F.plainAttrs_list PySem.F.slot_list_append PySem.F.type_list_append mt_append (pe_var (by rw [k.k.hN]; exact h1) (k.k.sv _ h2) n1 n2) (pa_cons ((so e X sc Wx _ k.k k.tk).1 h5) pa_nil hs) rfl ?_ h7 hs rfl)) st_app
    rw [hs]; rfl
  · cases h
theorem ss_ex {e : IE} : SoS nv ce C fn et N (.ex e) := fun X sc Wx s k h => by
  unfold chS at h
  split at h
  · simp only [Bool.and_eq_true] at h
    exact PS.imp (ps_expr ((so e X sc Wx _ k.k k.tk).1 h.1) (swap_of h.2)) st_ex
  · cases h
theorem ss_if {c : IE} {x y : IB} (hx : SoSs nv ce C fn et N x) (hy : SoSs nv ce C fn et N y) : SoS nv ce C fn et N (.ifS c x y) := fun X sc Wx s k h => by
  unfold chS at h
  split at h
  · simp only [Bool.and_eq_true] at h
    exact PS.imp (ps_if ((so c X sc Wx _ k.k k.tk).2 h.1.1) (hx X sc Wx _ k h.1.2) (hy X sc Wx _ k h.2)) st_if
  · cases h
theorem ss_whl {c : IE} {x : IB} (hx : SoSs nv ce C fn et N x) : SoS nv ce C fn et N (.whl c x) := fun X sc Wx s k h => by
  unfold chS at h
  split at h
  · simp only [Bool.and_eq_true] at h
    exact PS.imp (ps_while k.pas ((so c X sc Wx _ k.k k.tk).2 h.1) (hx X sc Wx _ k h.2)) st_whl
  · cases h
theorem ss_for {g : TgI} {src : SI} {x : IB} (hx : SoSs nv ce C fn et N x) : SoS nv ce C fn et N (.forS g src x) := fun X sc Wx s k h => by
  unfold chS at h
  split at h
  · simp only [Bool.and_eq_true] at h
    exact PS.imp (ps_for k.pas k.k.calm (soI src X sc Wx _ _ k.k k.tk h.1.1.2) (tg_chk k.k h.1.1.1) (hx X sc Wx _ k h.2) (fold_of h.1.2)) st_for
  · cases h
theorem ss_ret {e : IE} : SoS nv ce C fn et N (.ret e) := fun X sc Wx s k h => by
  unfold chS at h
  split at h
  · have he := (so e X sc Wx _ k.k k.tk).1 h
    cases e with
    | var i =>
      simp only [chB, CB.of] at h
      split at h
      · simp only [Bool.and_eq_true, decide_eq_true_eq] at h
        obtain ⟨⟨h1, h2⟩, h3⟩ := h
        obtain ⟨n1, n2, _⟩ := names_of h3
        exact PS.imp (ps_ret (pe_var (by rw [k.k.hN]; exact h1) (k.k.sv _ h2) n1 n2)) st_retx
      · cases h
    | _ => exact PS.imp (ps_ret he) (st_retv (by intro i z; cases z))
  · cases h
theorem ss_retN : SoS nv ce C fn et N .retN := fun X sc Wx s k h => by
  unfold chS at h
  split at h
  · exact PS.imp ps_retN st_retN
  · cases h
theorem ss_pass : SoS nv ce C fn et N .pass := fun X sc Wx s k h => by
  unfold chS at h
  split at h
  · exact PS.imp ps_pass st_pass
  · exact PS.imp ps_doc st_pass
  · cases h
theorem ss_brk : SoS nv ce C fn et N .brk := fun X sc Wx s k h => by
  unfold chS at h
  split at h
  · exact PS.imp ps_break st_brk
  · cases h
theorem ss_cnt : SoS nv ce C fn et N .cnt := fun X sc Wx s k h => by
  unfold chS at h
  split at h
  · exact PS.imp ps_continue st_cnt
  · cases h
theorem ss_nvr : SoS nv ce C fn et N .nvr := fun X sc Wx s k h => PS.imp ps_never st_nvr
theorem sss_nil : SoSs nv ce C fn et N .nil := fun X sc Wx s k h => by
  cases s with
  | nil => exact PSs.imp pss_nil st_nil
  | cons _ _ => simp [chSs] at h
theorem sss_cons {x : IS} {r : IB} (hx : SoS nv ce C fn et N x) (hr : SoSs nv ce C fn et N r) : SoSs nv ce C fn et N (.cons x r) := fun X sc Wx s k h => by
  cases s with
  | nil => simp [chSs] at h
  | cons y ys =>
    simp only [chSs, Bool.and_eq_true] at h
    exact PSs.imp (pss_cons (hx X sc Wx _ k h.1) (hr X sc Wx _ k h.2)) st_cons
theorem ss_rse {c : Nat} {fs : List Str} {a : IA} : SoS nv ce C fn et N (.rse c fs a) := fun X sc Wx s k h => by
  unfold chS at h
  split at h
  · simp only [Bool.and_eq_true, decide_eq_true_eq, Bool.not_eq_true'] at h
    obtain ⟨⟨⟨⟨h1, h2⟩, h3⟩, h4⟩, h5⟩ := h
    obtain ⟨n1, _, _⟩ := names_of h4
    obtain ⟨Cc, fI, cc, cda, T, hm, hc, _⟩ := k.cls c _ _ h1
    obtain ⟨kk, hr⟩ := k.room
    have hs := chA_star h5
    rw [List.all_cons, Bool.and_eq_true] at hs
    exact PS.imp (ps_raiseE k.k.calm T (fun z => by rw [z] at h2; cases h2) hm (k.k.bn _ (by decide +kernel)) hr k.tk (soA a X sc Wx _ k.k k.tk h5) (k.k.sg _ h3) n1 (star_of hs.1) (any_star hs.2)) (st_rse hc)
  · cases h
theorem hds_ok {X : Cx} {sc : Scope} {Wx : WX} (k : Ks nv ce C fn et N X sc Wx) : ∀ (hs : List Hd) (hds : List ExceptHandler), hdsC N et sc hs hds = true → ∃ ks, HG X hds ks ∧ Paired (HdAt X.K ce nv) hs ks
  | [], [], _ => ⟨[], .nil, .nil⟩
  | [], _ :: _, h => by simp [hdsC] at h
  | _ :: _, [], h => by simp [hdsC] at h
  | h :: hs, x :: xs, hh => by
    simp only [hdsC, Bool.and_eq_true] at hh
    obtain ⟨ks, i1, i2⟩ := hds_ok k hs xs hh.2
    have h1 := hh.1
    unfold hdC at h1
    split at h1
    · rename_i y np n s ss pos
      simp only [Bool.and_eq_true, decide_eq_true_eq] at h1
      obtain ⟨⟨⟨g1, g2⟩, g3⟩, g4⟩ := h1
      obtain ⟨n1, _, _⟩ := names_of g3
      obtain ⟨v, gm, gx⟩ := k.hnm _ _ g1
      have nm : Names X y v := ⟨k.k.sg _ g2, n1, gm⟩
      have plain : ∀ {i : Nat}, suC N i true sc [] [] h.asg (s :: ss) = true → SuOk X (s :: ss) (fun a cls d => tsA X.K nv a cls d 0 i h.asg) := fun {i} hsu a oe cls d pn hz hf =>
        pss_suite k.k.hN k.k.nd k.k.sv k.k.sl k.fnx k.k.sg (isl := []) (fun z => (z rfl).elim) (fun z => (z rfl).elim) (fun f hf => by cases hf) hz hf h.asg (s :: ss) hsu
      split at g4
      · rename_i e1 e2
        simp only [Bool.and_eq_true] at g4
        exact ⟨_, .bare nm (plain g4.1) i1, .cons ⟨e2.symm ▸ rfl, gx, _, 0, true, [], g4.2, (fun _ _ z => absurd z List.not_mem_nil), fun _ _ _ => rfl, fun z => by cases z⟩ i2⟩
      · rename_i z i e2
        have names : ∀ {cs : List Nat}, N[i]? = some z → plainLocal sc z = true → suC N N.length true sc [] [] h.asg (s :: ss) = true → sOk true N.length [] h.asg = true → ∃ ks, HG X (.ExceptHandler (some (.Name y np)) (some z) (s :: ss) pos :: xs) ks ∧ Paired (HdAt X.K ce nv) (h :: hs) ks := fun {cs} q1 q2 q3 q4 =>
          ⟨_, .named (i := i) (by rw [k.k.hN]; exact q1) (by show X.env.scope.names.lookup z = _; rw [k.esc]; exact plainLocal_of q2) nm (plain q3) i1, .cons ⟨e2.symm, gx, _, 0, true, [], q4, (fun _ _ z => absurd z List.not_mem_nil), fun _ _ _ => rfl, fun z => by cases z⟩ i2⟩
        split at g4
        · rename_i c ec
          split at g4
          · rename_i cn fs ecl
            simp only [Bool.and_eq_true, decide_eq_true_eq] at g4
            obtain ⟨⟨⟨q1, q2⟩, q3⟩, q4⟩ := g4
            obtain ⟨Cc, fI, cc, cda, T, _, hc, hX⟩ := k.cls c _ _ ecl
            exact ⟨_, .named (i := i) (ts := fun a cls d => tsA X.K nv a cls d Cc i h.asg) (by rw [k.k.hN]; exact q1) (by show X.env.scope.names.lookup z = _; rw [k.esc]; exact plainLocal_of q2) nm (fun a oe cls d pn hz hf => pss_suite k.k.hN k.k.nd k.k.sv k.k.sl k.fnx k.k.sg (k.isn c Cc hc) (fun _ => hX) T.noN hz hf h.asg (s :: ss) q3) i1,
              .cons ⟨e2.symm, gx, i, Cc, false, et.isl c, q4, fun x b hx => by
                obtain ⟨_, _, hI⟩ := k.isn c Cc hc fun z => by rw [z] at hx; cases hx
                obtain ⟨v, _, uv, _, kv⟩ := hI x b hx
                exact ⟨v, uv, kv⟩, fun _ _ _ => rfl, fun _ => ⟨e2, c, ec, hc⟩⟩ i2⟩
          · cases g4
        · simp only [Bool.and_eq_true, decide_eq_true_eq] at g4
          exact names (cs := h.cs) g4.1.1.1 g4.1.1.2 g4.1.2 g4.2
      · cases g4
    · cases h1
theorem Ks.tr {X : Cx} {sc : Scope} {Wx W : WX} (k : Ks nv ce C fn et N X sc Wx) {pn : List (Addr × Obj)} {xe : Value → Shared → Prop} (tk : Takes (X.tr pn xe) W) (pa : PassesOwn (model X.prog X.w) X.A X.env xe) : Ks nv ce C fn et N (X.tr pn xe) sc W where
  k := ⟨k.k.hN, k.k.nd, k.k.calm, k.k.hu, k.k.sv, k.k.sl, k.k.sg, k.k.sf, k.k.fnl, k.k.bn, k.k.fns⟩
  esc := k.esc
  kind := k.kind
  tk := tk
  pas := pa
  fnx := k.fnx
  stk := k.stk
  frm := k.frm
  room := k.room
  cls := k.cls
  hnm := k.hnm
  isn := k.isn
theorem ss_try {b : IB} {hs : List Hd} (hb : SoSs nv ce C fn et N b) : SoS nv ce C fn et N (.tryE b hs) := fun X sc Wx s k h => by
  unfold chS at h
  split at h
  · simp only [Bool.and_eq_true] at h
    obtain ⟨ks, h1, h2⟩ := hds_ok k _ _ h.2
    exact PS.imp (ps_tryG (tb := fun W => tIS X.K ce W (evSs C b)) k.stk k.frm (by rw [k.k.hN]; exact k.k.nd) k.tk (fun W pn xe tk pa => hb (X.tr pn xe) sc W _ (k.tr tk pa) h.1) h1) (st_try h2)
  · cases h
mutual
theorem sS : ∀ s : IS, SoS nv ce C fn et N s
  | .asg i e => ss_asg
  | .unp l e => ss_unp
  | .par i j a b => ss_par
  | .setI o k e => ss_setI
  | .app i e => ss_app
  | .ex e => ss_ex
  | .ifS c a b => ss_if (sSs a) (sSs b)
  | .whl c b => ss_whl (sSs b)
  | .forS g s b => ss_for (sSs b)
  | .ret e => ss_ret
  | .retN => ss_retN
  | .pass => ss_pass
  | .brk => ss_brk
  | .cnt => ss_cnt
  | .nvr => ss_nvr
  | .rse c fs a => ss_rse
  | .tryE b hs => ss_try (sSs b)
theorem sSs : ∀ s : IB, SoSs nv ce C fn et N s
  | .nil => sss_nil
  | .cons s r => sss_cons (sS s) (sSs r)
end
end
end LL

set_option Elab.async false
set_option linter.all false
set_option maxRecDepth 100000
set_option maxHeartbeats 2000000
/-! LHa: arguments that are all written; what the written part says of an error's class, as a Bool. -/
namespace LL
open PySem PySem.W PySem.Calls PyProof.Rows PySem.HandSPX

def plainP (p : Arguments) (ps : List Str) : Bool := p.posonlyargs.isEmpty && decide (p.args.map (·.arg) = ps) && p.vararg.isNone && p.kwonlyargs.isEmpty && p.kwarg.isNone && decide ps.Nodup
theorem zip_lk : ∀ {ps : List Str} {us : List Value}, ps.Nodup → us.length = ps.length → ps.filterMap (fun n => ((ps.zip us).lookup n).map (n, ·)) = ps.zip us
  | [], us, _, _ => by simp
  | p :: ps, [], _, h => by simp at h
  | p :: ps, u :: us, hn, h => by
    have hn' := List.nodup_cons.mp hn
    have ih := zip_lk (ps := ps) (us := us) hn'.2 (by simpa using h)
    rw [List.zip_cons_cons, List.filterMap_cons]
    have e : ((p, u) :: ps.zip us).lookup p = some u := by rw [List.lookup_cons]; simp
    rw [e]
    show (p, u) :: ps.filterMap _ = _
    congr 1
    refine Eq.trans ?_ ih
    have key : ∀ l : List Str, (∀ n ∈ l, n ∈ ps) → l.filterMap (fun n => (((p, u) :: ps.zip us).lookup n).map (n, ·)) = l.filterMap (fun n => ((ps.zip us).lookup n).map (n, ·)) := by
      intro l
      induction l with
      | nil => intro _; rfl
      | cons n l ih2 =>
        intro hl
        have ne : (n == p) = false := by
          apply beq_false_of_ne
          intro z
          have := hl n List.mem_cons_self
          rw [z] at this
          exact hn'.1 this
        rw [List.filterMap_cons, List.filterMap_cons, ih2 fun m hm => hl m (List.mem_cons_of_mem _ hm), List.lookup_cons, ne]
    exact key ps fun _ h => h
theorem zip_some {ps : List Str} {us : List Value} (h : us.length = ps.length) : (ps.filter fun n => ((ps.zip us).lookup n).isNone) = [] := by
  rw [List.filter_eq_nil_iff]
  intro n hn
  have key : ∀ {ps : List Str} {us : List Value}, us.length = ps.length → n ∈ ps → ((ps.zip us).lookup n).isNone = false := by
    intro ps
    induction ps with
    | nil => intro us _ h; cases h
    | cons p ps ih =>
      intro us hl h
      cases us with
      | nil => simp at hl
      | cons u us =>
        rw [List.zip_cons_cons, List.lookup_cons]
        by_cases e : (n == p) = true
        · rw [e]; rfl
        · have e' : (n == p) = false := by simpa using e
          rw [e']
          refine ih (by simpa using hl) ?_
          rcases List.mem_cons.mp h with z | z
          · rw [z] at e'; simp at e'
          · exact z
  rw [key h hn]
  exact Bool.false_ne_true
theorem bind_plain {fd : FuncData} {ps : List Str} {us : List Value} (h : plainP fd.params ps = true) (hd : fd.defaults = .none) (hl : us.length = ps.length) : bindArgs fd ⟨us, []⟩ = pure (ps.zip us) := by
  unfold plainP at h
  simp only [Bool.and_eq_true, List.isEmpty_iff, decide_eq_true_eq, Option.isNone_iff_eq_none] at h
  obtain ⟨⟨⟨⟨⟨h1, h2⟩, h3⟩, h4⟩, h5⟩, h6⟩ := h
  obtain ⟨nm, qn, ⟨po, ar, va, ko, kd, kw, df⟩, bd, sc, gl, cl, dfl, kwd, dc, pm, an, cd, ct, bu⟩ := fd
  dsimp only at h1 h2 h3 h4 h5 hd
  subst h1 h3 h4 h5 hd
  have e2 : seqItems? (Value.none) = pure none := rfl
  have e3 := zip_some hl
  have e4 := zip_lk h6 hl
  unfold bindArgs
  dsimp only
  rw [h2]
  simp [e2, hl, e3, e4]

/-! ### an error's class, as a Bool -/
def clsB (K : Frag) (C : Addr) : Bool := match K.lookup C with
  | some ⟨.type t, _, .cls cd, sl⟩ => (match cd.mro, sl.toList with
    | .ref C' :: bm, [_, _, _, _, some (.builtin n), _] => decide (t = "type") && C' == C && decide (n = "ValueError.__new__") && !cd.hasDel && cd.hasDict && refsVE bm && decide (alongIn K "__init__" bm = some (some (.builtin "ValueError.__init__")))
    | _, _ => false)
  | _ => false
theorem clsB_ok {K : Frag} {C : Addr} (h : clsB K C = true) : ∃ nm q N bs bm sn sub ab col dd k0 k1 k2 k3 k5, K.lookup C = some (excClassObj nm q C N bs bm true sn sub ab col dd k0 k1 k2 k3 k5 "ValueError.__new__") ∧ refsVE bm = true ∧ alongIn K "__init__" bm = some (some (.builtin "ValueError.__init__")) := by
  unfold clsB at h
  split at h
  · rename_i t dd cd sl ho
    split at h
    · rename_i C' bm k0 k1 k2 k3 n k5 hm hs
      simp only [Bool.and_eq_true, beq_iff_eq, Bool.not_eq_true', decide_eq_true_eq] at h
      obtain ⟨⟨⟨⟨⟨⟨rfl, rfl⟩, rfl⟩, hdel⟩, hdict⟩, hr⟩, ha⟩ := h
      obtain ⟨nm, bs, mro, ns, qn, hd, sn, sub, ab, col, del⟩ := cd
      dsimp only at hm hdel hdict
      subst hm hdel hdict
      have hsl : sl = #[k0, k1, k2, k3, some (.builtin "ValueError.__new__"), k5] := by
        obtain ⟨l⟩ := sl
        simp only at hs
        rw [hs]
      subst hsl
      exact ⟨nm, qn, ns, bs, bm, sn, sub, ab, col, dd, k0, k1, k2, k3, k5, ho, hr, ha⟩
    · cases h
  · cases h
def cellB (K : Frag) (cc C : Addr) : Bool := match K.lookup cc with
  | some ⟨_, _, .cell (some (.ref D)), _⟩ => D == C
  | _ => false
theorem cellB_ok {K : Frag} {cc C : Addr} (h : cellB K cc C = true) : ∃ cl cld csl, K.lookup cc = some ⟨cl, cld, .cell (some (.ref C)), csl⟩ := by
  unfold cellB at h
  split at h
  · rename_i cl cld D csl ho
    obtain rfl := beq_iff_eq.mp h
    exact ⟨_, _, _, ho⟩
  · cases h
def fileB (P : Program) (K : Frag) (cda : Addr) : Bool := match K.lookup cda with
  | some ⟨_, _, .fields vs, _⟩ => (match (vs : Array Value)[2]? with
    | some (Value.str file _) => (P.main.file : Str) == file
    | _ => false)
  | _ => false
theorem fileB_ok {P : Program} {K : Frag} {cda : Addr} (h : fileB P K cda = true) : ∃ ccl cdd vs ccs file tf, K.lookup cda = some ⟨ccl, cdd, .fields vs, ccs⟩ ∧ vs[2]? = some (.str file tf) ∧ ((P.main.file : Str) == file) = true := by
  unfold fileB at h
  split at h
  · rename_i ccl cdd vs ccs ho
    split at h
    · rename_i file tf hv
      exact ⟨_, _, _, _, _, _, ho, hv, h⟩
    · cases h
  · cases h
def fldB : List Str → List Stmt → Bool
  | [], [] => true
  | f :: fs, .Assign [.Attribute (.Name s _) g _] (.Name v _) _ :: r => decide (s = "self") && decide (g = f) && decide (v = f) && fldB fs r
  | _, _ => false
theorem fldB_ok : ∀ {fs : List Str} {r : List Stmt}, fldB fs r = true → FldSt fs r := by
  intro fs r h
  induction fs generalizing r with
  | nil =>
    cases r with
    | nil => exact .nil
    | cons _ _ => cases h
  | cons f fs ih =>
    unfold fldB at h
    split at h
    · rename_i e1; cases e1
    · rename_i f2 fs2 s p1 g p2 v p3 p4 r2 e1
      cases e1
      simp only [Bool.and_eq_true, decide_eq_true_eq] at h
      obtain ⟨⟨⟨rfl, rfl⟩, rfl⟩, hr⟩ := h
      exact .cons (ih hr)
    · cases h
/-- what the scope of an error's __init__ says -/
def scB (scope : Scope) (fs : List Str) : Bool := decide (scope.kind = .function) && !scope.isCoroutine && !scope.isGenerator && (scope.names.all fun x => decide (x.2 ≠ .cell)) && decide (scope.names.lookup ("super" : Str) = some .globalImplicit) && decide (scope.names.lookup ("__class__" : Str) = some .free) &&
  ((("self" : Str) :: fs).all fun f => decide (scope.names.lookup f = some .local))
def fnB (K : Frag) (fs : List Str) (fI cda cc : Addr) : Bool := match K.lookup fI with
  | some ⟨_, _, .func ⟨nm, qn, params, .stmts (.Expr (.Call (.Attribute (.Call (.Name s0 _) [] [] _) i0 p2) [.Constant (.str _) _ _] [] p4) _ :: r), scope, gl, [(c, a)], .none, .none, _, _, _, .ref cd, _, bu⟩, _⟩ =>
    decide (nm = "__init__") && decide (s0 = "super") && decide (i0 = "__init__") && (p2.endLine == p4.line) && fldB fs r && (gl == mainGlobals) && decide (c = "__class__") && (a == cc) && (cd == cda) && (bu == builtinsNs) && codeIn K (.ref cda) qn && plainP params (("self" : Str) :: fs) && scB scope fs
  | _ => false
theorem fnB_ok {K : Frag} {fs : List Str} {fI cda cc : Addr} (h : fnB K fs fI cda cc = true) : ∃ (oc doc pm ct : Value) (od an : Option Addr) (osl : Array (Option Value)) (qn : Str) (params : Arguments) (scope : Scope) (r : List Stmt) (txt : Str) (j : Nat) (p0 p1 p2 p3 p4 p5 pa : Pos) (ann : Option Expr) (ars : List Arg),
    K.lookup fI = some ⟨oc, od, .func (ksFn "__init__" qn params (.Expr (.Call (.Attribute (.Call (.Name "super" p0) [] [] p1) "__init__" p2) [.Constant (.str txt) j p3] [] p4) p5 :: r) scope .none .none doc pm an (.ref cda) ct cc), osl⟩ ∧ codeIn K (.ref cda) qn = true ∧ (p2.endLine == p4.line) = true ∧ FldSt fs r ∧
    params.posonlyargs ++ params.args = ⟨"self", ann, pa⟩ :: ars ∧ scope.kind = .function ∧ scope.isCoroutine = false ∧ scope.isGenerator = false ∧ (∀ x ∈ scope.names, x.2 ≠ .cell) ∧ scope.names.lookup ("super" : Str) = some .globalImplicit ∧ scope.names.lookup ("__class__" : Str) = some .free ∧
    (∀ f ∈ ("self" : Str) :: fs, scope.names.lookup f = some .local) ∧ (("self" : Str) :: fs).Nodup ∧ (∀ us : List Value, us.length = fs.length + 1 → bindArgs (ksFn "__init__" qn params (.Expr (.Call (.Attribute (.Call (.Name "super" p0) [] [] p1) "__init__" p2) [.Constant (.str txt) j p3] [] p4) p5 :: r) scope .none .none doc pm an (.ref cda) ct cc) ⟨us, []⟩ = pure ((("self" : Str) :: fs).zip us)) := by
  unfold fnB at h
  split at h
  · rename_i oc od nm qn params s0 p0 p1 i0 p2 txt j p3 p4 p5 r scope gl c a doc pm an cd ct bu osl ho
    simp only [Bool.and_eq_true, beq_iff_eq, decide_eq_true_eq] at h
    obtain ⟨⟨⟨⟨⟨⟨⟨⟨⟨⟨⟨⟨rfl, rfl⟩, rfl⟩, g1⟩, g2⟩, rfl⟩, rfl⟩, rfl⟩, rfl⟩, rfl⟩, g3⟩, g4⟩, g5⟩ := h
    have g4' := g4
    unfold plainP at g4'
    simp only [Bool.and_eq_true, List.isEmpty_iff, decide_eq_true_eq, Option.isNone_iff_eq_none] at g4'
    obtain ⟨⟨⟨⟨⟨h1, h2⟩, h3⟩, h4⟩, h5⟩, h6⟩ := g4'
    unfold scB at g5
    simp only [Bool.and_eq_true, Bool.not_eq_true', decide_eq_true_eq, List.all_eq_true] at g5
    obtain ⟨⟨⟨⟨⟨⟨k1, k2⟩, k3⟩, k4⟩, k5⟩, k6⟩, k7⟩ := g5
    have hp : ∃ ann pa ars, params.posonlyargs ++ params.args = ⟨"self", ann, pa⟩ :: ars := by
      rw [h1, List.nil_append]
      cases hh : params.args with
      | nil => rw [hh] at h2; cases h2
      | cons x xs =>
        rw [hh] at h2
        obtain ⟨ar, ann, pa⟩ := x
        simp only [List.map_cons, List.cons.injEq] at h2
        obtain ⟨rfl, _⟩ := h2
        exact ⟨ann, pa, xs, rfl⟩
    obtain ⟨ann, pa, ars, hp⟩ := hp
    refine ⟨oc, doc, pm, ct, od, an, osl, qn, params, scope, r, txt, j, p0, p1, p2, p3, p4, p5, pa, ann, ars, ho, g3, by rw [g1]; exact beq_self_eq_true _, fldB_ok g2, hp, k1, k2, k3, k4, k5, k6, k7, h6, fun us hl => ?_⟩
    exact bind_plain (ps := ("self" : Str) :: fs) g4 rfl hl
  · cases h
/-- all that ErrTxt asks -/
def errB (P : Program) (K : Frag) (fs : List Str) (C fI cc cda : Addr) : Bool := clsB K C && decide (findIn K (.ref C) "__setattr__" = some (some (.builtin "object.__setattr__"))) && (fs.all fun f => decide (findIn K (.ref C) f = some none)) && decide (findIn K (.ref C) "__init__" = some (some (.ref fI))) &&
  decide (typeIn K (.ref fI) = some (.type "function")) && keepIn K (.ref C) && decide (subIn K (.ref C) (.type "BaseException") = some true) && decide (typeIn K (.ref C) = some (.type "type")) && decide (nsIn K mainGlobals "super" = some none) && decide (nsIn K cStatics "thirdparty.any" = some none) && cellB K cc C && fileB P K cda &&
  !(P.main.scope.names.lookup ("super" : Str)).isSome && decide (fs.length ≤ 900) && (fs.all fun f => !(f == ("__debug__" : Str))) && fnB K fs fI cda cc
theorem errB_ok {P : Program} {K : Frag} {mg : Str → Option Value} {fs : List Str} {C fI cc cda : Addr} (h : errB P K fs C fI cc cda = true) : ErrTxt P K mg fs C fI cc cda := by
  unfold errB at h
  simp only [Bool.and_eq_true, decide_eq_true_eq, List.all_eq_true, Bool.not_eq_true'] at h
  obtain ⟨⟨⟨⟨⟨⟨⟨⟨⟨⟨⟨⟨⟨⟨⟨h1, h2⟩, h3⟩, h4⟩, h5⟩, h6⟩, h7⟩, h8⟩, h9⟩, h10⟩, h11⟩, h12⟩, h13⟩, h14⟩, h15⟩, h16⟩ := h
  exact ⟨clsB_ok h1, h2, h3, h4, h5, h6, h7, h8, h9, h10, cellB_ok h11, fileB_ok h12, h13, h14, h15, fnB_ok h16⟩
end LL

set_option Elab.async false
set_option linter.all false
set_option maxRecDepth 100000
set_option maxHeartbeats 4000000
/-! LLn (v2): defs, the tables of a text, and a law's end. -/
namespace LL
open PySem L2

/-- a def of the text, with its own words -/
structure DefI where
  id : Nat
  at_ : Str × Option Str
  name : Str
  qual : Str
  ps : List Str
  N : List Str
  st : Stmt
  fn : FnI
def DefI.d (d : DefI) : He.DefD := ⟨d.at_, d.name, d.qual, defArgs d.st, defBody d.st, defScope d.st, [], []⟩
/-- the tables of a text -/
structure Txt where
  D : List DefI
  et : ET
def fnNs (D : List DefI) : List (Nat × Str × Nat) := D.filterMap fun d => match d.at_.2 with
  | none => some (d.id, d.at_.1, d.ps.length)
  | some _ => none
def fnT (D : List DefI) : FT := D.map fun d => (d.id, d.fn)
def okDef (fn : List (Nat × Str × Nat)) (et : ET) (d : DefI) : Bool :=
  C8.scC d.N d.ps (defScope d.st) && decide (d.fn.ns = d.N.length) && decide (d.fn.np = d.ps.length) && plainP (defArgs d.st) d.ps && chSs fn et d.N d.fn.body (defScope d.st) (defBody d.st)
def okTxt (T : Txt) : Bool := decide (T.D.map (·.id)).Nodup && T.D.all (okDef (fnNs T.D) T.et)

/-! ### the written part -/
def nmB (K : PySem.W.Frag) (x : Str) : Option (Option Value) := PySem.W.nsIn K mainGlobals x
/-- what a class's name stands for: a class of the module, or a built-in one -/
def clsV (K : PySem.W.Frag) (x : Str) : Option Value := match nmB K x with
  | some (some (.ref a)) => some (.ref a)
  | some none => if x == ("__name__" : Str) then none else match bootBuiltins x with
    | some (.type n) => some (.type n)
    | _ => none
  | _ => none
def nvK (K : PySem.W.Frag) (x : Str) : V := match clsV K x with
  | some (.ref a) => .ref a
  | some (.type n) => .ty n
  | _ => .non
theorem clsV_ok {K : PySem.W.Frag} {h : Heap} {mg : Str → Option Value} (X : K.In h) (G : h.Ns mainGlobals mg) {x : Str} {v : Value} (e : clsV K x = some v) :
    RelV (nvK K x) v ∧ (∀ u, RelV (nvK K x) u → u = v) ∧ (mg x = some v ∨ (mg x = none ∧ bootBuiltins x = some v ∧ x ≠ "__name__")) := by
  have e' := e
  unfold clsV at e'
  split at e'
  · rename_i a q
    cases e'
    refine ⟨?_, ?_, .inl (PySem.W.mg_of X G q)⟩
    · unfold nvK; rw [e]; rfl
    · unfold nvK; rw [e]; exact fun u h => h
  · rename_i q
    split at e'
    · cases e'
    · rename_i hx
      split at e'
      · rename_i n hb
        cases e'
        refine ⟨?_, ?_, .inr ⟨PySem.W.mg_none_of X G q, hb, by simpa using hx⟩⟩
        · unfold nvK; rw [e]; rfl
        · unfold nvK; rw [e]; exact fun u h => h
      · cases e'
  · cases e'
def ceK (K : PySem.W.Frag) (et : ET) (c : Nat) : Option Addr := (et.cl.lookup c).map fun p => He.ga K p.1
/-- the cell and the code of an error's __init__ -/
def ccK (K : PySem.W.Frag) (fI : Addr) : Addr × Addr := match K.lookup fI with
  | some ⟨_, _, .func fd, _⟩ => ((match fd.closure with
    | [(_, a)] => a
    | _ => 0), match fd.code with
    | .ref a => a
    | _ => 0)
  | _ => (0, 0)
def clB (P : Program) (K : PySem.W.Frag) (p : Nat × Str × List Str) : Bool :=
  let C := He.ga K p.2.1
  let fI := He.ma K C "__init__"
  let cc := ccK K fI
  He.eqO (nmB K p.2.1) (some (some (.ref C))) && errB P K p.2.2 C fI cc.1 cc.2 && xfB K C
def excB (K : PySem.W.Frag) (D : Addr) : Bool := decide (PySem.W.findIn K (.ref D) "__getattribute__" = some (some (.builtin "BaseException.__getattribute__"))) && decide (PySem.W.findIn K (.ref D) "__getattr__" = some none) && decide (PySem.W.subIn K (.ref D) (.type "BaseException") = some true) && PySem.W.hasDictIn K D &&
  decide (PySem.W.findIn K (.ref D) "__class__" = some (some (.builtin "object.__class__"))) && decide (PySem.W.specialIn K (.builtin "object.__class__") "__get__" = some (some (.builtin "getset_descriptor.__get__"))) && decide (PySem.W.takesIn K (.builtin "object.__class__") = some true) && decide (PySem.W.mroIn K D (.type "object") = some true)
theorem excB_ok {K : PySem.W.Frag} {D : Addr} (h : excB K D = true) : ExcC K D := by
  unfold excB at h
  simp only [Bool.and_eq_true, decide_eq_true_eq] at h
  obtain ⟨⟨⟨⟨⟨⟨⟨h1, h2⟩, h3⟩, h4⟩, h5⟩, h6⟩, h7⟩, h8⟩ := h
  exact ⟨h1, h2, h3, h4, h5, h6, h7, h8⟩
/-- a name in an except clause -/
def hmB (K : PySem.W.Frag) (et : ET) (p : Str × List Nat) : Bool := match clsV K p.1 with
  | some v => et.cl.all fun c => decide (PySem.W.exmOne K (.ref (He.ga K c.2.1)) v = some (p.2.contains c.1))
  | none => false
def isB (K : PySem.W.Frag) (et : ET) (p : Nat × List (Str × Bool)) : Bool := match et.cl.lookup p.1 with
  | some c => excB K (He.ga K c.1) && p.2.all fun q => match clsV K q.1 with
    | some v => decide (PySem.W.kitOne K (.ref (He.ga K c.1)) v = some q.2)
    | none => false
  | none => false
/-- all that the written part must say -/
def txtB (P : Program) (T : Txt) (K : PySem.W.Frag) : Bool := (bNames.all fun b => He.eqO (nmB K b) (some none)) && (T.D.all fun d => match d.at_.2 with
    | none => He.eqO (nmB K d.at_.1) (some (some (.ref (He.ga K d.at_.1))))
    | some _ => true) && T.et.cl.all (clB P K) && T.et.hm.all (hmB K T.et) && T.et.is.all (isB K T.et)
structure DefAt (K : PySem.W.Frag) (mg : Str → Option Value) (d : DefI) (a : Addr) (fd : FuncData) : Prop where
  F : FunD K d.name d.qual (defArgs d.st) (defBody d.st) (defScope d.st) [] [] a fd
  mga : d.at_.2 = none → mg d.at_.1 = some (.ref a)
  bd : plainP (defArgs d.st) d.ps = true → Binds K fd d.ps []
/-- what the end leans on -/
structure TxtAt (P : Program) (K : PySem.W.Frag) (mg : Str → Option Value) (T : Txt) : Prop where
  D : ∀ d ∈ T.D, ∃ a fd, DefAt K mg d a fd
  bn : ∀ b ∈ bNames, mg b = none
  cls : ∀ c x fs, T.et.cl.lookup c = some (x, fs) → ∃ C fI cc cda, ErrTxt P K mg fs C fI cc cda ∧ mg x = some (.ref C) ∧ ceK K T.et c = some C ∧ XfC K C
  hnm : ∀ x cs, (x, cs) ∈ T.et.hm → ∃ v, (mg x = some v ∨ (mg x = none ∧ bootBuiltins x = some v ∧ x ≠ "__name__")) ∧ ∀ c Cx, ceK K T.et c = some Cx → PySem.W.exmOne K (.ref Cx) v = some (cs.contains c)
  isn : ∀ c C, ceK K T.et c = some C → T.et.isl c ≠ [] → ExcC K C ∧ ∀ x b, (x, b) ∈ T.et.isl c → ∃ v, RelV (nvK K x) v ∧ (∀ u, RelV (nvK K x) u → u = v) ∧ (mg x = some v ∨ (mg x = none ∧ bootBuiltins x = some v ∧ x ≠ "__name__")) ∧ PySem.W.kitOne K (.ref C) v = some b
theorem lookup_in {α β : Type} [BEq α] [LawfulBEq α] : ∀ {l : List (α × β)} {a : α} {b : β}, l.lookup a = some b → (a, b) ∈ l
  | (k, v) :: l, a, b, h => by
    rw [List.lookup_cons] at h
    by_cases e : (a == k) = true
    · rw [e] at h
      cases h
      rw [eq_of_beq e]
      exact List.mem_cons_self
    · have e' : (a == k) = false := by simpa using e
      rw [e'] at h
      exact List.mem_cons_of_mem _ (lookup_in h)
theorem lookup_map {α β γ : Type} [BEq α] [LawfulBEq α] {k : γ → α} {g : γ → β} : ∀ {l : List γ} {x : γ}, (l.map k).Nodup → x ∈ l → (l.map fun d => (k d, g d)).lookup (k x) = some (g x)
  | d :: l, x, hn, h => by
    rw [List.map_cons, List.lookup_cons]
    rcases List.mem_cons.mp h with rfl | h
    · simp
    · have hn' := List.nodup_cons.mp hn
      have ne : (k x == k d) = false := beq_false_of_ne fun z => hn'.1 (by rw [← z]; exact List.mem_map.mpr ⟨x, h, rfl⟩)
      rw [ne]
      exact lookup_map hn'.2 h
theorem txt_at {P : Program} {K : PySem.W.Frag} {h : Heap} {mg : Str → Option Value} {T : Txt} (X : K.In h) (G : h.Ns mainGlobals mg) (tb : txtB P T K = true)
    (fD : ∀ d ∈ T.D, ∃ fd, FunD K d.name d.qual (defArgs d.st) (defBody d.st) (defScope d.st) [] [] (He.fAd K d.at_) fd) : TxtAt P K mg T := by
  unfold txtB at tb
  simp only [Bool.and_eq_true, List.all_eq_true] at tb
  obtain ⟨⟨⟨⟨t1, t2⟩, t3⟩, t4⟩, t5⟩ := tb
  refine ⟨fun d hd => ?_, fun b hb => PySem.W.mg_none_of X G (He.eqO_ok (t1 b hb)), fun c x fs hc => ?_, fun x cs hx => ?_, fun c C hc hne => ?_⟩
  · obtain ⟨fd, F⟩ := fD d hd
    refine ⟨_, fd, F, fun hn => ?_, fun hp => ?_⟩
    · have := t2 d hd
      rw [hn] at this
      have e : He.fAd K d.at_ = He.ga K d.at_.1 := by unfold He.fAd; rw [hn]
      rw [e]
      exact PySem.W.mg_of X G (He.eqO_ok this)
    · exact F.bindsN fun kV doc pm an cdv ct us hl => bind_plain hp rfl hl
  · have h := t3 _ (lookup_in hc)
    unfold clB at h
    simp only [Bool.and_eq_true] at h
    obtain ⟨⟨h1, h2⟩, h3⟩ := h
    refine ⟨_, _, _, _, errB_ok h2, PySem.W.mg_of X G (He.eqO_ok h1), ?_, xfB_ok h3⟩
    unfold ceK; rw [hc]; rfl
  · have h := t4 _ hx
    unfold hmB at h
    split at h
    · rename_i v hv
      refine ⟨v, (clsV_ok X G hv).2.2, fun c Cx hc => ?_⟩
      unfold ceK at hc
      obtain ⟨p, hp, rfl⟩ := Option.map_eq_some_iff.mp hc
      rw [List.all_eq_true] at h
      exact of_decide_eq_true (h _ (lookup_in hp))
    · cases h
  · have hi : ∃ l, T.et.is.lookup c = some l ∧ T.et.isl c = l := by
      unfold ET.isl at hne ⊢
      cases e : T.et.is.lookup c with
      | none => rw [e] at hne; exact (hne rfl).elim
      | some l => exact ⟨l, rfl, rfl⟩
    obtain ⟨l, hl, el⟩ := hi
    have h := t5 _ (lookup_in hl)
    unfold isB at h
    unfold ceK at hc
    obtain ⟨p, hp, rfl⟩ := Option.map_eq_some_iff.mp hc
    dsimp only at h
    rw [hp] at h
    simp only [Bool.and_eq_true, List.all_eq_true] at h
    refine ⟨excB_ok h.1, fun x b hx => ?_⟩
    rw [el] at hx
    have q := h.2 _ hx
    dsimp only at q
    cases ev : clsV K x with
    | none => rw [ev] at q; cases q
    | some v =>
      rw [ev] at q
      obtain ⟨c1, c2, c3⟩ := clsV_ok X G ev
      exact ⟨v, c1, c2, c3, of_decide_eq_true q⟩

/-! ### entering a def -/
section
variable [Cs]
theorem AV_entry {n : Nat} {ws : List W} {Z : Addr → Prop} {σ : St} {a : Addr} (h : AV Z (entryE n ws) σ a) : Z a := by
  rcases h with h | ⟨i, k, us, h, _⟩
  · exact h
  · exfalso
    unfold entryE at h
    by_cases hi : i < (ws.map fun w => some (Sl.val w)).length
    · rw [List.getElem?_append_left hi, List.getElem?_map] at h
      cases e : ws[i]? with
      | none => rw [e] at h; cases h
      | some w => rw [e] at h; cases h
    · rw [List.getElem?_append_right (by omega)] at h
      have := List.mem_of_getElem? h
      simp at this
theorem OE_entry {n : Nat} {ws : List W} {σ : St} {a : Addr} : ¬ OE (entryE n ws) σ a := fun h => AV_entry (Z := fun _ => False) (.inr h)
theorem entry_ok {K : PySem.W.Frag} {φ : List Addr} {A : Addr → Prop} {H : Hp} {S : List SO} {ws : List W} {vs : List V} {N : List Str} (hS : RelS K φ A H S) (hz : ∀ a, A a → ∃ o, H a = some o) (hR : Reps K φ A H ws vs) (hl : vs.length ≤ N.length) :
    S0 K ⟨φ, A, fun a => H a = none, H, fun _ h => h⟩ φ ⟨entryE N.length ws, S⟩ (L2.start N vs) H := by
  have lw : vs.length = ws.length := hR.length
  refine ⟨⟨hS.anti fun a z => AV_entry z, ?_, fun i s e => ?_, fun i j k k' us us' a e1 _ e2 _ => (OE_entry (n := N.length) (ws := ws) (σ := L2.start N vs) ⟨i, k, us, e1, e2⟩).elim, fun a z => (OE_entry z).elim, hz⟩, .refl, fun a z => (OE_entry z).elim⟩
  · show (entryE N.length ws).length = (L2.start N vs).length
    unfold entryE L2.start
    simp [lw]
  · show ∃ v, (L2.start N vs)[i]? = some v ∧ _
    have e : (entryE N.length ws)[i]? = some (some s) := e
    unfold entryE at e
    by_cases hi : i < (ws.map fun w => some (Sl.val w)).length
    · rw [List.getElem?_append_left hi, List.getElem?_map] at e
      cases e' : ws[i]? with
      | none => rw [e'] at e; cases e
      | some w =>
        rw [e'] at e
        cases e
        have hi' : i < vs.length := by rw [lw]; simpa using hi
        refine ⟨some vs[i], ?_, vs[i], rfl, ?_⟩
        · unfold L2.start
          rw [List.getElem?_append_left (by simpa using hi'), List.getElem?_map, List.getElem?_eq_getElem hi']; rfl
        · obtain ⟨v, e2, r⟩ := hR.get e'
          rw [List.getElem?_eq_getElem hi'] at e2
          cases e2
          exact r.anti fun a z => AV_entry z
    · rw [List.getElem?_append_right (by omega)] at e
      have := List.mem_of_getElem? e
      simp at this
theorem ext_in {φ φ' : List Addr} {H H' : Hp} (e : Ext φ (fun a => H a = none) H φ' H') : Ext φ (fun _ => False) H φ' H' :=
  ⟨e.pre, e.new, e.dom, e.tup, e.mrk, fun a o h n _ => e.frm a o h n fun z => by rw [h] at z; cases z⟩
theorem fin_ok {K : PySem.W.Frag} {ce : Nat → Option Addr} {φ : List Addr} {A : Addr → Prop} {H : Hp} {Q : VK} {E : XK} {r : RS}
    (h : match RC.fin r with
      | .ok r S' => ∀ φ' H' v, Ext φ (fun _ => False) H φ' H' → RRepS K φ' A H H' S' r v → Q v H'
      | .exn c fs S' => ∀ φ' H' cls d, Ext φ (fun _ => False) H φ' H' → RelS K φ' A H' S' → ExnR K ce φ' A H' c fs cls d → E cls d H'
      | .bad => False) : OutS K ce (fun cls d _ H => E cls d H) ⟨φ, A, fun a => H a = none, H, fun _ h => h⟩ r { nx := fun _ H' => Q .non H', rt := Q } := by
  cases r with
  | bad => exact h
  | brk st => exact h.elim
  | cnt st => exact h.elim
  | nx st =>
    intro φ' σ' H' s
    exact h φ' H' .non (ext_in s.ext) ⟨s.rel.sto.anti fun a z => .inl z, rep_non.mpr rfl⟩
  | ret r S =>
    intro φ' H' v rr
    refine h φ' H' v (ext_in rr.1) ?_
    cases r with
    | v w => exact rr.2
    | f k ws =>
      obtain ⟨p, vs, e, hb, q⟩ := rr.2
      exact ⟨p, vs, e, hb, q⟩
  | exn c fs st =>
    intro φ' σ' H' cls d s x
    refine h φ' H' cls d (ext_in s.ext) (s.rel.sto.anti fun a z => .inl z) ⟨x.1, fun f w hf => ?_, x.2.2⟩
    obtain ⟨dd, xs, v, q1, q2, q3, q4, q5, q6⟩ := x.2.1 f w hf
    exact ⟨dd, xs, v, q1, q2, q3, fun z => q4 (.inl z), q5, q6.anti fun a z => .inl z⟩
section
variable {P : Program} {w : World} {K : PySem.W.Frag} {mg : Str → Option Value} {base : Heap}
theorem fns_ok {T : Txt} (hT : TxtAt P K mg T) (chk : okTxt T = true) :
    ∀ (k : Nat) (d : DefI) (a : Addr) (fd : FuncData), d ∈ T.D → DefAt K mg d a fd → FnOk P w K mg base (L2.CX P w) (k + 1) a fd d.ps (spC K (ceK K T.et) (callN (fnT T.D) k) d.id d.ps.length)
  | 0, d, a, fd, e, A => ⟨fun vs H Q E h => h.1, fun A outer s H args us vs Q E hr he hb hv hs => by
      obtain ⟨_, φ, A, S, ws, _, _, _, q⟩ := hs
      exact q.elim⟩
  | k + 1, d, a, fd, e, A => by
    unfold okTxt at chk
    simp only [Bool.and_eq_true, decide_eq_true_eq] at chk
    obtain ⟨hnd, chk⟩ := chk
    have chk' : okTxt T = true := by unfold okTxt; simp only [Bool.and_eq_true, decide_eq_true_eq]; exact ⟨hnd, chk⟩
    have hd := List.all_eq_true.mp chk d e
    unfold okDef at hd
    simp only [Bool.and_eq_true, decide_eq_true_eq] at hd
    obtain ⟨⟨⟨⟨h1, h2⟩, h3⟩, hpp⟩, h4⟩ := hd
    have S := C8.fnScope_by h1
    refine A.F.ok S (fun vs H Q E h => h.1) fun cdv Ar outer s H vs Q E hr hsp => ?_
    obtain ⟨hl, φ, Az, S', ws, rS, rz, rR, q⟩ := hsp
    let X : Cx := cxOf (L2.CX P w) P w K mg base d.N d.qual (defScope d.st) a cdv Ar outer s H E
    have kx : Kx (ceK K T.et) (callN (fnT T.D) k) (fnNs T.D) d.N X (defScope d.st) := {
      hN := rfl
      nd := S.nd
      calm := rfl
      hu := Nat.lt_of_le_of_lt (Nat.le_trans (Nat.add_le_add_left (by omega) _) (Nat.le_of_eq (Nat.add_assoc _ (16 * (k + 1)) 200).symm)) hr.un
      sv := fun x h => vis_of h
      sl := fun x h => locl_of h
      sg := fun x h => glb_of h
      sf := fun x h => h
      fnl := fun x h => .inl rfl
      bn := hT.bn
      fns := fun g x n hg => by
        have hg := lookup_in hg
        unfold fnNs at hg
        obtain ⟨d', hd', eg⟩ := List.mem_filterMap.mp hg
        cases hn : d'.at_.2 with
        | some m => rw [hn] at eg; cases eg
        | none =>
          rw [hn] at eg
          cases eg
          obtain ⟨b, fd', A'⟩ := hT.D d' hd'
          have hd2 := List.all_eq_true.mp chk d' hd'
          unfold okDef at hd2
          simp only [Bool.and_eq_true] at hd2
          exact ⟨b, fd', d'.ps, k + 1, hr, A'.mga hn, A'.F.kp, A'.bd hd2.1.2, rfl, fns_ok hT chk' k d' b fd' hd' A'⟩ }
    have ks : Ks (nvK K) (ceK K T.et) (callN (fnT T.D) k) (fnNs T.D) T.et d.N X (defScope d.st) (fun cls d _ H => E cls d H) := {
      k := kx
      esc := rfl
      kind := S.kind
      tk := takes_of rfl rfl rfl rfl
      pas := passes_of rfl
      fnx := fun x h => .inl rfl
      stk := rfl
      frm := rfl
      room := ⟨k + 1, hr⟩
      cls := hT.cls
      hnm := hT.hnm
      isn := fun c C hc hne => by
        obtain ⟨h1, h2⟩ := hT.isn c C hc hne
        exact ⟨h1, hT.bn _ (by decide +kernel), h2⟩ }
    have hb := sSs (nv := nvK K) d.fn.body X (defScope d.st) (fun cls d _ H => E cls d H) (defBody d.st) ks h4
    refine ⟨_, hb, ⟨φ, Az, fun a => H a = none, H, fun _ h => h⟩, φ, ⟨entryE d.N.length ws, S'⟩, entry_ok rS rz rR ?_, fin_ok ?_⟩
    · have := congrArg List.length S.pre
      rw [List.length_take] at this
      omega
    · have e2 : (fnT T.D).lookup d.id = some d.fn := lookup_map (k := DefI.id) (g := DefI.fn) hnd e
      have e3 : (ws.length == d.fn.np) = true := by
        have := rR.length
        rw [h3, beq_iff_eq]
        omega
      unfold callN at q
      rw [e2] at q
      simp only [e3, if_true, h2] at q
      exact q
end
end
/-! ### the head -/
def obsM (P : Program) (T : Txt) (K : PySem.W.Frag) : He.AlD := (txtB P T K && (T.D.map DefI.d).all fun d => d.ok K, (T.D.map DefI.d).map fun d => He.fnW K d.at_)
def valM (T : Txt) : He.AlD := (true, (T.D.map DefI.d).map He.DefD.val)
def SaysM (P : Program) (T : Txt) (K : PySem.W.Frag) : Prop := obsM P T K = valM T
def obsMG (n : Nat) (P : Program) (T : Txt) (g : Addr → Option Obj) : He.AlD := obsM P T (He.frG g (PySem.cStatics :: He.asD g n))
def hookM (n : Nat) (P : Program) (T : Txt) : PySem.W.Hook where
  α := He.AlD
  obs := fun s => obsMG n P T s.heap.get?
  val := fun _ => valM T
  says := fun _ h => ∃ K : PySem.W.Frag, K.In h ∧ SaysM P T K
  of := fun _ _ e => ⟨_, He.frG_in, e⟩
  keeps := fun _ _ _ ⟨K, hK, c⟩ k => ⟨K, PySem.W.Frag.In.keeps hK k, c⟩
theorem obsMG_eq {n : Nat} {P : Program} {T : Txt} {g : Addr → Option Obj} {s : Shared} (h : ∀ a, g a = s.heap.get? a) : obsMG n P T g = (hookM n P T).obs s := by
  have e : g = s.heap.get? := funext h
  rw [e] <;> rfl
theorem SaysM.at {P : Program} {T : Txt} {K : PySem.W.Frag} {h : Heap} {mg : Str → Option Value} (c : SaysM P T K) (X : K.In h) (G : h.Ns mainGlobals mg) : TxtAt P K mg T := by
  have c1 := He.ba (show (txtB P T K && (T.D.map DefI.d).all fun d => d.ok K) = true from congrArg (fun z : He.AlD => z.1) c)
  refine txt_at X G c1.1 fun d hd => ?_
  obtain ⟨i, hi, e⟩ := List.mem_iff_getElem.mp hd
  have e1 : (T.D.map DefI.d)[i]? = some d.d := by rw [List.getElem?_map, List.getElem?_eq_getElem hi, e]; rfl
  have e2 : (T.D.map DefI.d).map (fun d => He.fnW K d.at_) = (T.D.map DefI.d).map He.DefD.val := congrArg (fun z : He.AlD => z.2) c
  have m1 := List.mem_of_getElem? e1
  generalize T.D.map DefI.d = l at e1 e2
  have e3 : (l.map fun d => He.fnW K d.at_)[i]? = (l.map He.DefD.val)[i]? := by rw [e2]
  rw [List.getElem?_map, List.getElem?_map, e1] at e3
  exact He.DefD.funD (d := d.d) (Option.some.inj e3) (List.all_eq_true.mp c1.2 d.d m1)
/-- the classes of the written part -/
@[reducible] def csK (K : PySem.W.Frag) (T : Txt) : Cs := ⟨fun _ => none, fun _ => none⟩
/-- a law's end, over the head's facts -/
theorem law_endM {l : PySem.W.OpenLaw} {n k m : Nat} {q : Program} {loose : List Str} {XP : (Str → Option Value) → Heap → Prop} {d : DefRec} {T : Txt} {dl : DefI} {x : Str}
    (hn : l.most = some n) (hn2 : n ≤ sizeLine) (hdf : d.params.defaults = []) (hk : k < 200) (hi : dl ∈ T.D) (hp : dl.ps = [x]) (hdx : dl.at_ = (d.name, none)) (chk : okTxt T = true)
    (hlaw : ∀ ns : List Int, ns.length ≤ n → ∃ S, callN (fnT T.D) k dl.id [.scr ns] [] = .ok (.v (.bl true)) S) :
    PySem.W.WalkO q loose XP (hookM m l.prog T).says l.row.toRowW d [] (fun f vs => PySem.call f vs) := by
  have hr : Room (k + 1) callerA := by
    refine ⟨rfl, ?_, ?_⟩
    · show 1 + claimMargin + 3 * (k + 1) + 5 < recursionLimit
      have : recursionLimit = 1000 := rfl
      have : claimMargin ≤ 300 := by decide +kernel
      omega
    · show 4 + 16 * (k + 1) + 200 < cLine
      have : (5000 : Nat) ≤ cLine := by decide
      omega
  refine Att.attach_call hn hdf fun w s₀ s₁ mg mb fa o pm cd doc a vs ns G Y ho hd hcd hmg hobj hints hlen hg => ?_
  obtain ⟨K, KX, c⟩ := Y
  have hT := c.at KX G.T.g
  letI : Cs := csK K T
  obtain ⟨a', fd, A⟩ := hT.D dl hi
  have e : a' = fa := by
    have h1 := A.mga (by rw [hdx])
    rw [hdx] at h1
    dsimp only at h1
    rw [hmg] at h1
    cases h1; rfl
  subst e
  have hok := hT
  unfold okTxt at chk
  simp only [Bool.and_eq_true, decide_eq_true_eq] at chk
  have chk' : okTxt T = true := by unfold okTxt; simp only [Bool.and_eq_true, decide_eq_true_eq]; exact chk
  have hd2 := List.all_eq_true.mp chk.2 dl hi
  unfold okDef at hd2
  simp only [Bool.and_eq_true] at hd2
  have hpl := hd2.1.2
  refine law_call (fd := fd) (x := x) (CX := L2.CX l.prog w) (sp := spC K (ceK K T.et) (callN (fnT T.D) k) dl.id 1) KX G.T.g G.T.b G.T.builtins G.T.nolimit hg hobj hints (Nat.le_trans hlen hn2) hr ?_ ?_ ?_ ?_
  · exact fun base hb hbG => by
      have := fns_ok (P := l.prog) (w := w) (base := base) hT chk' k dl a' fd hi A
      rw [hp] at this
      exact this
  · intro s u
    have := A.F.bindsA (ps := dl.ps) (fun kV doc pm an cdv ct us hl => bind_plain hpl rfl hl) s [u] (by rw [hp]; rfl)
    rw [hp] at this
    exact this
  · intro H hO hS
    refine ⟨rfl, [], fun _ => False, [], [.scr ns], ⟨rfl, List.nodup_nil, fun a m => by simp at m, fun n a so e => by simp at e⟩, fun _ z => z.elim, .cons (rep_scr.mpr ⟨a, rfl, ?_⟩) .nil, ?_⟩
    · rcases hS with (h | ⟨o, h⟩) | h
      · rcases hO a with q | ⟨o, xs, q⟩
        · rw [h] at q; cases q
        · rw [h] at q; cases q
      · exact .inl ⟨o, _, h, by simp, fun z => z, rfl⟩
      · exact .inr h
    · obtain ⟨S, e⟩ := hlaw ns hlen
      rw [e]
      intro φ' H' v _ rr
      exact rep_bl.mp rr.2
  · intro H e s' z
    obtain ⟨_, _, _, _, _, _, _, _, _, _, _, _, z⟩ := z
    exact z
end LL

set_option Elab.async false
set_option linter.all false
set_option maxRecDepth 100000
set_option maxHeartbeats 4000000
/-! LLs: lemmas for equations in the small language. -/
namespace LL
open PySem L2
theorem callN_eq {T : FT} {k f : Nat} {fn : FnI} {ws : List W} {S : List SO} (h : T.lookup f = some fn) (hl : (ws.length == fn.np) = true) : callN T (k + 1) f ws S = RC.fin (evSs (callN T k) fn.body ⟨entryE fn.ns ws, S⟩) := by
  show (match T.lookup f with
    | none => RC.bad
    | some fn => if ws.length == fn.np then RC.fin (evSs (callN T k) fn.body ⟨entryE fn.ns ws, S⟩) else .bad) = _
  rw [h]
  simp only [hl, if_true]
theorem forL_ok {step : W → ST → RS} {I : Nat → ST → Prop} : ∀ {xs : List W} {st : ST}, (∀ i x st, xs[i]? = some x → I i st → ∃ st', step x st = .nx st' ∧ I (i + 1) st') → I 0 st → ∃ st', forL step xs st = .nx st' ∧ I xs.length st'
  | [], st, _, h0 => ⟨st, rfl, h0⟩
  | x :: xs, st, h, h0 => by
    obtain ⟨st1, e1, h1⟩ := h 0 x st rfl h0
    obtain ⟨st2, e2, h2⟩ := forL_ok (I := fun i => I (i + 1)) (xs := xs) (fun i y s e => h (i + 1) y s (by simpa using e)) h1
    exact ⟨st2, by rw [forL, e1]; exact e2, h2⟩
theorem whileL_ok {c : ST → R Bool} {b : ST → RS} {I : Nat → ST → Prop} {Q : ST → Prop} (h : ∀ n st, I n st → (∃ st', c st = .ok false st' ∧ Q st') ∨ ∃ st1 st2 m, c st = .ok true st1 ∧ b st1 = .nx st2 ∧ m < n ∧ I m st2) :
    ∀ (fuel n : Nat) (st : ST), I n st → n < fuel → ∃ st', whileL c b fuel st = .nx st' ∧ Q st'
  | 0, n, st, _, hn => absurd hn (Nat.not_lt_zero _)
  | fuel + 1, n, st, hi, hn => by
    rcases h n st hi with ⟨st', e, q⟩ | ⟨st1, st2, m, e1, e2, hm, hi2⟩
    · exact ⟨st', by simp [whileL, e, RS.of], q⟩
    · obtain ⟨st', e, q⟩ := whileL_ok h fuel m st2 hi2 (by omega)
      exact ⟨st', by simp [whileL, e1, RS.of, e2, e], q⟩
theorem set_set_eq {α : Type} : ∀ (l : List α) (i : Nat) (a b : α), (l.set i a).set i b = l.set i b
  | [], _, _, _ => rfl
  | _ :: _, 0, _, _ => rfl
  | x :: l, i + 1, a, b => by simp
section
variable {C : CT}
/-- one name, the block leaves the frame alone -/
theorem comp_nm {β : Type} {f : β → W} {all : List β} {elt : IE} {i : Nat} {src : SI} {cond : IE} {has : Bool} {st st0 : ST} {g : β → Option W} (hs : evI C src st = .ok (all.map f) st0) (hi : i < st0.env.length)
    (h : ∀ x ∈ all, (if has then ((evB C cond).t ⟨st0.env.set i (some (.val (f x))), st0.sto⟩).bind (fun b st => if b then ((evB C elt).v st).bind (fun r st => .ok (some r.w) st) else .ok none st)
      else ((evB C elt).v ⟨st0.env.set i (some (.val (f x))), st0.sto⟩).bind (fun r st => .ok (some r.w) st)) = .ok (g x) ⟨st0.env.set i (some (.val (f x))), st0.sto⟩) :
    (evB C (.comp elt (.nm i) src cond has)).v st = .ok (.f .lst (all.filterMap g)) ⟨st0.env.set i (keepV st0.env[i]?), st0.sto⟩ := by
  have key : ∀ (ys : List β), (∀ y ∈ ys, y ∈ all) → ∀ o, ∃ o', compL (cStep (evB C cond).t (evB C elt).v (.nm i) has) (ys.map f) ⟨st0.env.set i o, st0.sto⟩ = .ok (ys.filterMap g) ⟨st0.env.set i o', st0.sto⟩ := by
    intro ys
    induction ys with
    | nil => exact fun _ o => ⟨o, rfl⟩
    | cons y ys ih =>
      intro hy o
      obtain ⟨o', e⟩ := ih (fun z hz => hy z (List.mem_cons_of_mem _ hz)) (some (.val (f y)))
      have hstep : cStep (evB C cond).t (evB C elt).v (.nm i) has (f y) ⟨st0.env.set i o, st0.sto⟩ = .ok (g y) ⟨st0.env.set i (some (.val (f y))), st0.sto⟩ := by
        have q := h y (hy y List.mem_cons_self)
        unfold cStep
        simp only [TgI.vars, wipeE, setT, set_set_eq]
        exact q
      refine ⟨o', ?_⟩
      rw [List.map_cons]
      unfold compL
      rw [hstep]
      simp only [R.bind, e]
      cases hg : g y <;> simp [hg]
  have e0 : (⟨st0.env, st0.sto⟩ : ST) = ⟨st0.env.set i st0.env[i], st0.sto⟩ := by rw [List.set_getElem_self]
  obtain ⟨o', e⟩ := key all (fun y hy => hy) st0.env[i]
  rw [← e0] at e
  simp only [evB, EB.of, hs, R.bind]
  rw [show st0 = ⟨st0.env, st0.sto⟩ from rfl, e]
  simp only [TgI.vars, restE, set_set_eq]
end
end LL

/-! Mrg: the merge of lists, on plain lists. -/
set_option linter.all false
namespace Mrg
variable {α : Type} [DecidableEq α]
/-- x stands behind the head of a row -/
def blk (rest : List (List α)) (x : α) : Bool := rest.any fun r => decide (x ∈ r.tail)
/-- heads that no row blocks -/
def free (rest all : List (List α)) : List α := all.filterMap fun r => match r with
  | x :: _ => if blk rest x then none else some x
  | [] => none
def ne : List α → Bool
  | [] => false
  | _ => true
theorem ne_cons (x : α) (t : List α) : ne (x :: t) = true := rfl
/-- x taken away from the heads -/
def drp (x : α) : List α → List α
  | y :: t => if y = x then t else y :: t
  | [] => []
theorem drp_cons (x y : α) (t : List α) : drp x (y :: t) = if y = x then t else y :: t := rfl
def adv (x : α) (rest : List (List α)) : List (List α) := (rest.map (drp x)).filter ne
/-- the rows are all short of the end; what comes out -/
inductive Go : List (List α) → List α → Prop where
  | nil : Go [] []
  | cons {rest x xs out} (h : free rest rest = x :: xs) (k : Go (adv x rest) out) : Go rest (x :: out)
theorem Go.inv {rest : List (List α)} {x : α} {out : List α} (h : Go rest (x :: out)) : ∃ xs, free rest rest = x :: xs ∧ Go (adv x rest) out := by
  cases h with
  | cons h k => exact ⟨_, h, k⟩
theorem drp_sub (x : α) : ∀ r : List α, (drp x r).Sublist r
  | [] => .slnil
  | y :: t => by
    rw [drp_cons]
    split
    · exact List.sublist_cons_self y t
    · exact .refl _
theorem mem_adv {x : α} {rest : List (List α)} {r : List α} : r ∈ adv x rest ↔ r ≠ [] ∧ ∃ r0 ∈ rest, drp x r0 = r := by
  unfold adv
  rw [List.mem_filter, List.mem_map]
  cases r <;> simp [ne]
theorem free_mem {rest all : List (List α)} {x : α} : x ∈ free rest all ↔ ∃ t, (x :: t) ∈ all ∧ blk rest x = false := by
  unfold free
  rw [List.mem_filterMap]
  constructor
  · rintro ⟨r, hr, h⟩
    cases r with
    | nil => cases h
    | cons y t =>
      simp only at h
      split at h
      · cases h
      · rename_i hb
        cases h
        exact ⟨t, hr, by simpa using hb⟩
  · rintro ⟨t, ht, hb⟩
    exact ⟨_, ht, by simp [hb]⟩
theorem blk_iff {rest : List (List α)} {x : α} : blk rest x = true ↔ ∃ r ∈ rest, x ∈ r.tail := by
  unfold blk; simp
/-- rows in one order -/
def InOrd (ord : List α) (rest : List (List α)) : Prop := ∀ r ∈ rest, r ≠ [] ∧ r.Sublist ord
theorem adv_ord {ord : List α} {rest : List (List α)} {x : α} (h : InOrd ord rest) : InOrd ord (adv x rest) := by
  intro r hr
  obtain ⟨h1, r0, h2, rfl⟩ := mem_adv.mp hr
  exact ⟨h1, (drp_sub x r0).trans (h r0 h2).2⟩
/-- a row that begins earliest -/
theorem first_free : ∀ {ord : List α} {rest : List (List α)}, ord.Nodup → InOrd ord rest → rest ≠ [] → free rest rest ≠ []
  | [], rest, _, h, hne => by
    cases rest with
    | nil => exact (hne rfl).elim
    | cons r rs =>
      have := h r List.mem_cons_self
      exact (this.1 (List.sublist_nil.mp this.2)).elim
  | o :: ord, rest, nd, h, hne => by
    by_cases c : ∃ t, (o :: t) ∈ rest
    · obtain ⟨t, ht⟩ := c
      have : o ∈ free rest rest := free_mem.mpr ⟨t, ht, by
        cases hb : blk rest o with
        | false => rfl
        | true =>
          obtain ⟨r, hr, hm⟩ := blk_iff.mp hb
          cases r with
          | nil => cases hm
          | cons y t2 =>
            exfalso
            have hs := (h _ hr).2
            have nd2 := List.nodup_cons.mp nd
            cases hs with
            | cons _ hs => exact nd2.1 (hs.subset (List.mem_cons_of_mem _ hm))
            | cons_cons _ hs => exact nd2.1 (hs.subset hm)⟩
      exact List.ne_nil_of_mem this
    · refine first_free (ord := ord) (List.nodup_cons.mp nd).2 (fun r hr => ⟨(h r hr).1, ?_⟩) hne
      have hs := (h r hr).2
      cases hs with
      | cons _ hs => exact hs
      | cons_cons _ hs => exact (c ⟨_, hr⟩).elim
def tot (rest : List (List α)) : Nat := (rest.map List.length).sum
theorem drp_len (x : α) (r : List α) : (drp x r).length ≤ r.length := (drp_sub x r).length_le
theorem tot_filter (l : List (List α)) : tot (l.filter ne) = tot l := by
  induction l with
  | nil => rfl
  | cons r l ih =>
    unfold tot at ih ⊢
    cases r with
    | nil => simpa [ne] using ih
    | cons y t => simp only [List.filter_cons, ne, if_true, List.map_cons, List.sum_cons, ih]
theorem tot_map_le (x : α) (l : List (List α)) : tot (l.map (drp x)) ≤ tot l := by
  induction l with
  | nil => exact Nat.le_refl _
  | cons r l ih =>
    unfold tot at ih ⊢
    have := drp_len x r
    simp only [List.map_cons, List.sum_cons]
    omega
theorem tot_lt {x : α} {t : List α} : ∀ {rest : List (List α)}, (x :: t) ∈ rest → tot (rest.map (drp x)) < tot rest
  | r :: rest, h => by
    rcases List.mem_cons.mp h with e | h
    · have h1 := tot_map_le x rest
      subst e
      simp only [tot, List.map_cons, List.sum_cons, drp, if_true, List.length_cons] at h1 ⊢
      omega
    · have h1 := tot_lt h
      have h2 := drp_len x r
      simp only [tot, List.map_cons, List.sum_cons] at h1 ⊢
      omega
theorem adv_lt {rest : List (List α)} {x : α} {xs : List α} (h : free rest rest = x :: xs) : tot (adv x rest) < tot rest := by
  obtain ⟨t, ht, _⟩ := free_mem.mp (show x ∈ free rest rest by rw [h]; exact List.mem_cons_self)
  unfold adv
  rw [tot_filter]
  exact tot_lt ht
/-- a hidden order lets it go through -/
theorem go_ord {ord : List α} (nd : ord.Nodup) : ∀ (n : Nat) (rest : List (List α)), tot rest ≤ n → InOrd ord rest → ∃ out, Go rest out ∧ out.length ≤ n
  | n, [], _, _ => ⟨[], .nil, Nat.zero_le _⟩
  | n, r :: rs, hn, h => by
    have hf := first_free nd h (by simp)
    cases e : free (r :: rs) (r :: rs) with
    | nil => exact (hf e).elim
    | cons x xs =>
      have hl := adv_lt e
      cases n with
      | zero => omega
      | succ n =>
        obtain ⟨out, g, hg⟩ := go_ord nd n (adv x (r :: rs)) (by omega) (adv_ord h)
        exact ⟨x :: out, .cons e g, by simpa using hg⟩
theorem Go.det {rest : List (List α)} {o1 o2 : List α} (h1 : Go rest o1) (h2 : Go rest o2) : o1 = o2 := by
  induction h1 generalizing o2 with
  | nil => cases h2 with
    | nil => rfl
    | cons h _ => simp [free] at h
  | cons h k ih =>
    cases h2 with
    | nil => simp [free] at h
    | cons h' k' =>
      rw [h] at h'
      cases h'
      rw [ih k']
/-- x is gone after its turn -/
theorem adv_gone {rest : List (List α)} {x : α} (hn : ∀ r ∈ rest, r.Nodup) (hb : blk rest x = false) : ∀ r ∈ adv x rest, x ∉ r := by
  intro r hr hx
  obtain ⟨_, r0, h0, rfl⟩ := mem_adv.mp hr
  have nb : x ∉ r0.tail := fun z => by
    have := blk_iff.mpr ⟨r0, h0, z⟩
    rw [hb] at this; cases this
  cases r0 with
  | nil => cases hx
  | cons y t =>
    rw [drp_cons] at hx
    split at hx
    · exact nb hx
    · rename_i hy
      rcases List.mem_cons.mp hx with e | e
      · exact hy e.symm
      · exact nb e
theorem adv_keep {rest : List (List α)} {x y : α} (hy : y ≠ x) : (∃ r ∈ adv x rest, y ∈ r) ↔ ∃ r ∈ rest, y ∈ r := by
  constructor
  · rintro ⟨r, hr, hm⟩
    obtain ⟨_, r0, h0, rfl⟩ := mem_adv.mp hr
    exact ⟨r0, h0, (drp_sub x r0).subset hm⟩
  · rintro ⟨r, hr, hm⟩
    have hm' : y ∈ drp x r := by
      cases r with
      | nil => cases hm
      | cons z t =>
        rw [drp_cons]
        split
        · rename_i e
          rcases List.mem_cons.mp hm with q | q
          · exact (hy (q.trans e)).elim
          · exact q
        · exact hm
    exact ⟨drp x r, mem_adv.mpr ⟨List.ne_nil_of_mem hm', r, hr, rfl⟩, hm'⟩
theorem go_mem {rest : List (List α)} {out : List α} (g : Go rest out) : (∀ r ∈ rest, r.Nodup) → out.Nodup ∧ ∀ y, y ∈ out ↔ ∃ r ∈ rest, y ∈ r := by
  induction g with
  | nil => exact fun _ => ⟨List.nodup_nil, by simp⟩
  | @cons rest x xs out h k ih =>
    intro hn
    obtain ⟨t, ht, hb⟩ := free_mem.mp (show x ∈ free rest rest by rw [h]; exact List.mem_cons_self)
    obtain ⟨i1, i2⟩ := ih fun r hr => by
      obtain ⟨_, r0, h0, rfl⟩ := mem_adv.mp hr
      exact (hn r0 h0).sublist (drp_sub x r0)
    have gone := adv_gone hn hb
    refine ⟨List.nodup_cons.mpr ⟨fun z => ?_, i1⟩, fun y => ?_⟩
    · obtain ⟨r, hr, hm⟩ := (i2 x).mp z
      exact gone r hr hm
    · by_cases e : y = x
      · subst e
        exact ⟨fun _ => ⟨_, ht, List.mem_cons_self⟩, fun _ => List.mem_cons_self⟩
      · rw [List.mem_cons, i2, adv_keep e]
        simp [e]
/-- rows that stand there twice change nothing -/
theorem blk_more {rest ex : List (List α)} (h : ∀ r ∈ ex, r ∈ rest) (x : α) : blk (rest ++ ex) x = blk rest x := by
  rw [Bool.eq_iff_iff, blk_iff, blk_iff]
  constructor
  · rintro ⟨r, hr, hm⟩
    rcases List.mem_append.mp hr with q | q
    · exact ⟨r, q, hm⟩
    · exact ⟨r, h r q, hm⟩
  · rintro ⟨r, hr, hm⟩
    exact ⟨r, List.mem_append_left _ hr, hm⟩
theorem free_cong {r1 r2 : List (List α)} (h : ∀ x, blk r1 x = blk r2 x) (all : List (List α)) : free r1 all = free r2 all := by
  unfold free
  congr 1
  funext r
  cases r with
  | nil => rfl
  | cons x t => simp only [h x]
theorem go_more {rest : List (List α)} {out : List α} (g : Go rest out) : ∀ {ex : List (List α)}, (∀ r ∈ ex, r ∈ rest) → Go (rest ++ ex) out := by
  induction g with
  | nil =>
    intro ex h
    cases ex with
    | nil => exact .nil
    | cons r _ => exact absurd (h r List.mem_cons_self) (by simp)
  | @cons rest x xs out h k ih =>
    intro ex he
    refine .cons (xs := xs ++ free rest ex) ?_ ?_
    · rw [free_cong (blk_more he)]
      unfold free at h ⊢
      rw [List.filterMap_append, h]; rfl
    · have e : adv x (rest ++ ex) = adv x rest ++ adv x ex := by
        unfold adv
        rw [List.map_append, List.filter_append]
      rw [e]
      refine ih fun r hr => ?_
      obtain ⟨h1, r0, h0, rfl⟩ := mem_adv.mp hr
      exact mem_adv.mpr ⟨h1, r0, he r0 h0, rfl⟩
theorem go_one : ∀ {xs : List α}, xs.Nodup → Go ([xs].filter ne) xs
  | [], _ => .nil
  | x :: t, h => by
    have hx := (List.nodup_cons.mp h).1
    refine .cons (xs := []) ?_ ?_
    · have e : List.filter ne [x :: t] = [x :: t] := rfl
      rw [e]
      simp [free, blk, hx]
    · have : adv x (List.filter ne [x :: t]) = List.filter ne [t] := by
        have e : List.filter ne [x :: t] = [x :: t] := rfl
        rw [e]
        unfold adv
        rw [List.map_cons, List.map_nil, drp_cons, if_pos rfl]
      rw [this]
      exact go_one (List.nodup_cons.mp h).2
end Mrg

set_option Elab.async false
set_option linter.all false
set_option maxRecDepth 100000
/-! bodies that came with k03 -/
namespace Fn
open PySem L2 LL
/-- blocking_list -/
def f_blocking_list : FnI := ⟨2, 3, (.cons (.forS (.nm 2) (.seq (.var 0)) (.cons (.ifS (.cmp .inn (.var 1) (.sfrom (.var 2) (.int 1))) (.cons (.ret (.var 2)) .nil) .nil) .nil)) (.cons (.ret .non) .nil))⟩
/-- ring_of -/
def f_ring_of : FnI := ⟨1, 3, (.cons (.par 1 2 (.lst .nil) (.idx (.idx (.var 0) (.int 0)) (.int 0))) (.cons (.whl (.cmp .nin (.var 2) (.var 1)) (.cons (.app 1 (.var 2)) (.cons (.asg 2 (.idx (.call 0 (.cons (.var 0) (.cons (.var 2) .nil))) (.int 0))) .nil))) (.cons (.ret (.blt .tuple (.cons (.rev (.sfrom (.var 1) (.idxOf (.var 1) (.var 2)))) .nil))) .nil)))⟩
/-- merge_for -/
def f_merge_for : FnI := ⟨2, 6, (.cons (.par 2 3 (.lst .nil) (.comp (.var 5) (.nm 5) (.seq (.var 1)) (.cmp .ne (.var 5) (.tup .nil)) true)) (.cons (.whl (.cmp .ne (.var 3) (.lst .nil)) (.cons (.asg 4 (.comp (.idx (.var 5) (.int 0)) (.nm 5) (.seq (.var 3)) (.cmp .isN (.call 0 (.cons (.var 3) (.cons (.idx (.var 5) (.int 0)) .nil))) .non) true)) (.cons (.ifS (.cmp .eq (.var 4) (.lst .nil)) (.cons (.rse 1 ["name", "ring"] (.cons (.var 0) (.cons (.call 2 (.cons (.var 3) .nil)) .nil))) .nil) .nil) (.cons (.app 2 (.idx (.var 4) (.int 0))) (.cons (.asg 3 (.comp (.ifE (.cmp .eq (.idx (.var 5) (.int 0)) (.idx (.var 4) (.int 0))) (.sfrom (.var 5) (.int 1)) (.var 5)) (.nm 5) (.seq (.var 3)) .non false)) (.cons (.asg 3 (.comp (.var 5) (.nm 5) (.seq (.var 3)) (.cmp .ne (.var 5) (.tup .nil)) true)) .nil)))))) (.cons (.ret (.blt .tuple (.cons (.var 2) .nil))) .nil)))⟩
/-- merge -/
def f_merge : FnI := ⟨1, 3, (.cons (.forS (.tp [1, 2]) (.enm (.var 0)) (.cons (.ifS (.cmp .lt (.setLen (.var 2)) (.blt .len (.cons (.var 2) .nil))) (.cons (.rse 4 ["index"] (.cons (.var 1) .nil)) .nil) .nil) .nil)) (.cons (.ret (.call 3 (.cons .non (.cons (.var 0) .nil)))) .nil))⟩
/-- _law_taken -/
def f__law_taken : FnI := ⟨2, 4, (.cons (.ifS (.cmp .gt (.idx (.var 0) (.int 3)) (.int 0)) (.cons (.asg 3 (.bin .mod (.blt .int (.cons (.idx (.var 0) (.int 3)) .nil)) (.var 1))) (.cons (.setI (.var 0) (.int 3) (.bin .fdiv (.idx (.var 0) (.int 3)) (.var 1))) (.cons (.ret (.var 3)) .nil))) .nil) (.cons (.setI (.var 0) (.int 1) (.bin .add (.idx (.var 0) (.int 1)) (.int 1))) (.cons (.ifS (.cmp .gt (.idx (.var 0) (.int 1)) (.blt .len (.cons (.idx (.var 0) (.int 0)) .nil))) (.cons (.setI (.var 0) (.int 2) (.bin .mod (.blt .int (.cons (.bin .add (.bin .mul (.idx (.var 0) (.int 2)) (.int 48271)) (.int 11)) .nil)) (.int 2147483647))) (.cons (.ret (.bin .mod (.blt .int (.cons (.bin .fdiv (.idx (.var 0) (.int 2)) (.int 7)) .nil)) (.var 1))) .nil)) .nil) (.cons (.asg 2 (.idx (.idx (.var 0) (.int 0)) (.bin .sub (.idx (.var 0) (.int 1)) (.int 1)))) (.cons (.setI (.var 0) (.int 2) (.bin .mod (.blt .int (.cons (.bin .add (.bin .add (.bin .mul (.idx (.var 0) (.int 2)) (.int 48271)) (.var 2)) (.int 11)) .nil)) (.int 2147483647))) (.cons (.setI (.var 0) (.int 3) (.ifE (.cmp .ge (.var 2) (.bin .pow (.int 10) (.int 18))) (.bin .fdiv (.var 2) (.var 1)) (.int 0))) (.cons (.ret (.bin .mod (.blt .int (.cons (.var 2) .nil)) (.var 1))) .nil)))))))⟩
/-- _law_pick -/
def f__law_pick : FnI := ⟨2, 2, (.cons (.ret (.idx (.var 1) (.call 5 (.cons (.var 0) (.cons (.blt .len (.cons (.var 1) .nil)) .nil))))) .nil)⟩
/-- _law_words -/
def f__law_words : FnI := ⟨1, 4, (.cons (.asg 1 (.lst (.cons (.str "a") (.cons (.str "b") (.cons (.str "aa") (.cons (.str "a1") (.cons (.str "a_") (.cons (.str "ab") (.cons (.str "add") (.cons (.str "call") (.cons (.str "next") (.cons (.str "class") (.cons (.str "method") (.cons (.str "constant") (.cons (.str "clock") .nil))))))))))))))) (.cons (.asg 1 (.bin .add (.var 1) (.lst (.cons (.str "rebase") (.cons (.str "k") (.cons (.str "abcdefghijkl") (.cons (.str "abcdefghijkm") (.cons (.str "writable") (.cons (.str "x9_z") (.cons (.str "z") (.cons (.str "name") (.cons (.str "load") .nil)))))))))))) (.cons (.asg 1 (.bin .add (.var 1) (.lst (.cons (.str "computed") (.cons (.str "bind") .nil))))) (.cons (.asg 2 (.lst .nil)) (.cons (.forS (.nm 3) (.rng (.int 12)) (.cons (.app 2 (.pop 1 (.call 5 (.cons (.var 0) (.cons (.blt .len (.cons (.var 1) .nil)) .nil))))) .nil)) (.cons (.ret (.var 2)) .nil))))))⟩
/-- _law_some_bases -/
def f__law_some_bases : FnI := ⟨3, 6, (.cons (.par 4 5 (.blt .list (.cons (.var 1) .nil)) (.tup .nil)) (.cons (.forS (.nm 3) (.rng (.call 5 (.cons (.var 0) (.cons (.bin .add (.var 2) (.int 1)) .nil)))) (.cons (.ifS (.cmp .ne (.var 4) (.lst .nil)) (.cons (.asg 5 (.bin .add (.var 5) (.tup (.cons (.pop 4 (.call 5 (.cons (.var 0) (.cons (.blt .len (.cons (.var 4) .nil)) .nil)))) .nil)))) .nil) .nil) .nil)) (.cons (.ret (.var 5)) .nil)))⟩
/-- law -/
def f_law : FnI := ⟨1, 12, (.cons (.asg 1 (.nref (.lst (.cons (.var 0) (.cons (.int 0) (.cons (.int 0) (.cons (.int 0) .nil))))))) (.cons (.par 5 6 (.upto (.call 9 (.cons (.var 1) .nil)) (.int 5)) (.tup .nil)) (.cons (.forS (.nm 2) (.rng (.call 5 (.cons (.var 1) (.cons (.int 7) .nil)))) (.cons (.asg 7 (.call 8 (.cons (.var 1) (.cons (.var 5) (.cons (.int 5) .nil))))) (.cons (.ifS (.andE (.cmp .ne (.var 7) (.tup .nil)) (.cmp .eq (.call 5 (.cons (.var 1) (.cons (.int 4) .nil))) (.int 0))) (.cons (.par 10 11 (.call 5 (.cons (.var 1) (.cons (.bin .add (.blt .len (.cons (.var 7) .nil)) (.int 1)) .nil))) (.call 7 (.cons (.var 1) (.cons (.blt .list (.cons (.var 7) .nil)) .nil)))) (.cons (.asg 7 (.bin .add (.bin .add (.upto (.var 7) (.var 10)) (.tup (.cons (.var 11) .nil))) (.sfrom (.var 7) (.var 10)))) .nil)) .nil) (.cons (.asg 6 (.bin .add (.var 6) (.tup (.cons (.var 7) .nil)))) .nil)))) (.cons (.asg 3 (.comp (.var 2) (.nm 2) (.rng (.blt .len (.cons (.var 6) .nil))) (.cmp .lt (.setLen (.idx (.var 6) (.var 2))) (.blt .len (.cons (.idx (.var 6) (.var 2)) .nil))) true)) (.cons (.par 8 9 .non (.bl true)) (.cons (.tryE (.cons (.ex (.call 6 (.cons (.var 6) .nil))) .nil) [⟨[4], some 4, [(8, (.fld "index")), (9, (.andH (.isE "LiveError" true) (.isE "ValueError" true)))]⟩, ⟨[1], none, [(8, (.int (-1)))]⟩]) (.cons (.ifS (.cmp .ne (.var 3) (.lst .nil)) (.cons (.ret (.andE (.cmp .eq (.var 8) (.idx (.var 3) (.int 0))) (.var 9))) .nil) .nil) (.cons (.ret (.orE (.cmp .isN (.var 8) .non) (.cmp .eq (.var 8) (.int (-1))))) .nil))))))))⟩
end Fn

set_option Elab.async false
set_option linter.all false
set_option maxRecDepth 100000
set_option maxHeartbeats 4000000
/-! Wp: what must hold so that a run ends well; a run is walked up to the next call or loop. -/
namespace LL
open PySem L2
def pR {α : Type} (r : R α) (q : α → ST → Prop) (x : Nat → Flds → ST → Prop) : Prop := match r with
  | .ok a st => q a st
  | .exn c fs st => x c fs st
  | .bad => False
class Qs where
  nx : ST → Prop
  rt : RV → List SO → Prop
  bk : ST → Prop
  ct : ST → Prop
  ex : Nat → Flds → ST → Prop
def pS (r : RS) (q : Qs) : Prop := match r with
  | .nx st => q.nx st
  | .brk st => q.bk st
  | .cnt st => q.ct st
  | .ret r S => q.rt r S
  | .exn c fs st => q.ex c fs st
  | .bad => False
def pC (r : RC) (q : RV → List SO → Prop) (x : Nat → Flds → List SO → Prop) : Prop := match r with
  | .ok r S => q r S
  | .exn c fs S => x c fs S
  | .bad => False
theorem pR_congr {α : Type} {r r' : R α} {q : α → ST → Prop} {x : Nat → Flds → ST → Prop} (h : r = r') : pR r q x = pR r' q x := by rw [h]
theorem pS_congr {r r' : RS} {q : Qs} (h : r = r') : pS r q = pS r' q := by rw [h]
theorem pC_congr {r r' : RC} {q : RV → List SO → Prop} {x : Nat → Flds → List SO → Prop} (h : r = r') : pC r q x = pC r' q x := by rw [h]
section
variable {α β : Type} {q : α → ST → Prop} {x : Nat → Flds → ST → Prop} {st : ST} {Q : Qs} {qc : RV → List SO → Prop} {xc : Nat → Flds → List SO → Prop}
theorem pR_ok {a : α} : pR (.ok a st) q x = q a st := rfl
theorem pR_bad : pR (.bad : R α) q x = False := rfl
theorem pR_exn {c fs} : pR (.exn c fs st : R α) q x = x c fs st := rfl
theorem pR_bind {r : R β} {g : β → ST → R α} : pR (r.bind g) q x = pR r (fun a st => pR (g a st) q x) x := by cases r <;> rfl
theorem pS_nx : pS (.nx st) Q = Q.nx st := rfl
theorem pS_brk : pS (.brk st) Q = Q.bk st := rfl
theorem pS_cnt : pS (.cnt st) Q = Q.ct st := rfl
theorem pS_ret {r S} : pS (.ret r S) Q = Q.rt r S := rfl
theorem pS_exn {c fs} : pS (.exn c fs st) Q = Q.ex c fs st := rfl
theorem pS_bad : pS .bad Q = False := rfl
theorem pS_of {r : R β} {g : β → ST → RS} : pS (RS.of r g) Q = pR r (fun a st => pS (g a st) Q) Q.ex := by cases r <;> rfl
theorem pS_then {r : RS} {g : ST → RS} : pS (r.then g) Q = pS r { Q with nx := fun st => pS (g st) Q } := by cases r <;> rfl
theorem pC_ok {r S} : pC (.ok r S) qc xc = qc r S := rfl
theorem pC_exn {c fs S} : pC (.exn c fs S) qc xc = xc c fs S := rfl
theorem pC_bad : pC .bad qc xc = False := rfl
theorem pC_fin {r : RS} : pC (RC.fin r) qc xc = pS r ⟨fun st => qc (.v .non) st.sto, qc, fun _ => False, fun _ => False, fun c fs st => xc c fs st.sto⟩ := by cases r <;> rfl
theorem pR_callR {C : CT} {f : Nat} {ws : List W} {q : RV → ST → Prop} : pR (callR C f ws st) q x = pC (C f ws st.sto) (fun r S => q r { st with sto := S }) (fun c fs S => x c fs { st with sto := S }) := by
  unfold callR
  cases C f ws st.sto <;> rfl
theorem pR_if {b : Bool} {r r' : R α} (h1 : b = true → pR r q x) (h2 : b = false → pR r' q x) : pR (if b = true then r else r') q x := by
  cases b with
  | true => exact h1 rfl
  | false => exact h2 rfl
theorem pS_if {b : Bool} {r r' : RS} (h1 : b = true → pS r Q) (h2 : b = false → pS r' Q) : pS (if b = true then r else r') Q := by
  cases b with
  | true => exact h1 rfl
  | false => exact h2 rfl
theorem pS_ite {b : Prop} [Decidable b] {r r' : RS} (h1 : b → pS r Q) (h2 : ¬ b → pS r' Q) : pS (if b then r else r') Q := by
  by_cases h : b
  · rw [if_pos h]; exact h1 h
  · rw [if_neg h]; exact h2 h
theorem pR_ite {b : Prop} [Decidable b] {r r' : R α} (h1 : b → pR r q x) (h2 : ¬ b → pR r' q x) : pR (if b then r else r') q x := by
  by_cases h : b
  · rw [if_pos h]; exact h1 h
  · rw [if_neg h]; exact h2 h
theorem pC_mono {r : RC} {q' : RV → List SO → Prop} {x' : Nat → Flds → List SO → Prop} (h : pC r qc xc) (h1 : ∀ r S, qc r S → q' r S) (h2 : ∀ c fs S, xc c fs S → x' c fs S) : pC r q' x' := by
  cases r with
  | ok r S => exact h1 r S h
  | exn c fs S => exact h2 c fs S h
  | bad => exact h
theorem pR_mono {r : R α} {q' : α → ST → Prop} {x' : Nat → Flds → ST → Prop} (h : pR r q x) (h1 : ∀ a st, q a st → q' a st) (h2 : ∀ c fs S, x c fs S → x' c fs S) : pR r q' x' := by
  cases r with
  | ok r S => exact h1 r S h
  | exn c fs S => exact h2 c fs S h
  | bad => exact h
/-- entering a def -/
theorem pC_call {T : FT} {k f : Nat} {fn : FnI} {ws : List W} {S : List SO} (h : T.lookup f = some fn) (hl : (ws.length == fn.np) = true := by rfl)
    (g : pS (evSs (callN T k) fn.body ⟨entryE fn.ns ws, S⟩) ⟨fun st => qc (.v .non) st.sto, qc, fun _ => False, fun _ => False, fun c fs st => xc c fs st.sto⟩) : pC (callN T (k + 1) f ws S) qc xc := by
  rw [callN_eq h hl, pC_fin]; exact g
/-- a for, by an invariant over the turn -/
theorem pS_for {step : W → ST → RS} {xs : List W} (I : Nat → ST → Prop) (h0 : I 0 st) (hs : ∀ i w st, xs[i]? = some w → I i st → pS (step w st) { Q with nx := I (i + 1), ct := I (i + 1), bk := Q.nx })
    (hd : ∀ st, I xs.length st → Q.nx st) : pS (forL step xs st) Q := by
  induction xs generalizing st I with
  | nil => exact hd st h0
  | cons w xs ih =>
    have h1 := hs 0 w st rfl h0
    unfold forL
    cases e : step w st with
    | nx st1 => rw [e] at h1; exact ih (fun i => I (i + 1)) h1 (fun i v s hv hi => hs (i + 1) v s (by simpa using hv) hi) hd
    | cnt st1 => rw [e] at h1; exact ih (fun i => I (i + 1)) h1 (fun i v s hv hi => hs (i + 1) v s (by simpa using hv) hi) hd
    | brk st1 => rw [e] at h1; exact h1
    | ret r S => rw [e] at h1; exact h1
    | exn c fs st1 => rw [e] at h1; exact h1
    | bad => rw [e] at h1; exact h1
/-- a for over encoded items, by an invariant over those that are behind and those that are ahead -/
theorem pS_forM {β : Type} {enc : β → W} {step : W → ST → RS} {all : List β} (I : List β → List β → ST → Prop) (h0 : I [] all st)
    (hs : ∀ pre y post st, all = pre ++ y :: post → I pre (y :: post) st → pS (step (enc y) st) { Q with nx := I (pre ++ [y]) post, ct := I (pre ++ [y]) post, bk := Q.nx }) (hd : ∀ st, I all [] st → Q.nx st) : pS (forL step (all.map enc) st) Q := by
  have key : ∀ (post pre : List β) (st : ST), all = pre ++ post → I pre post st → pS (forL step (post.map enc) st) Q := by
    intro post
    induction post with
    | nil =>
      intro pre st e h
      rw [List.append_nil] at e
      subst e
      exact hd st h
    | cons y post ih =>
      intro pre st e h
      have h1 := hs pre y post st e h
      rw [List.map_cons]
      unfold forL
      have e2 : all = (pre ++ [y]) ++ post := by rw [e]; simp
      cases es : step (enc y) st with
      | nx st1 => rw [es] at h1; exact ih _ st1 e2 h1
      | cnt st1 => rw [es] at h1; exact ih _ st1 e2 h1
      | brk st1 => rw [es] at h1; exact h1
      | ret r S => rw [es] at h1; exact h1
      | exn c fs st1 => rw [es] at h1; exact h1
      | bad => rw [es] at h1; exact h1
  exact key all [] st rfl h0
/-- a while, by an invariant with a number that falls -/
theorem pS_while {c : ST → R Bool} {b : ST → RS} (I : Nat → ST → Prop) (hs : ∀ n st, I n st → pR (c st) (fun k st => if k = true then pS (b st) { Q with nx := fun st => ∃ m, m < n ∧ I m st, ct := fun st => ∃ m, m < n ∧ I m st, bk := Q.nx } else Q.nx st) Q.ex) :
    ∀ (fuel n : Nat) (st : ST), I n st → n < fuel → pS (whileL c b fuel st) Q
  | 0, n, st, _, hn => absurd hn (Nat.not_lt_zero _)
  | fuel + 1, n, st, hi, hn => by
    have h := hs n st hi
    unfold whileL
    rw [pS_of]
    cases e : c st with
    | bad => rw [e] at h; exact h
    | exn c fs st1 => rw [e] at h; exact h
    | ok k st1 =>
      rw [e] at h
      have h : if k = true then pS (b st1) { Q with nx := fun st => ∃ m, m < n ∧ I m st, ct := fun st => ∃ m, m < n ∧ I m st, bk := Q.nx } else Q.nx st1 := h
      show pS (if k = true then _ else _) Q
      cases k with
      | false =>
        rw [if_neg Bool.false_ne_true] at h ⊢
        exact h
      | true =>
        rw [if_pos rfl] at h ⊢
        cases eb : b st1 with
        | nx st2 =>
          rw [eb] at h
          obtain ⟨m, hm, hi2⟩ := h
          exact pS_while I hs fuel m st2 hi2 (by omega)
        | cnt st2 =>
          rw [eb] at h
          obtain ⟨m, hm, hi2⟩ := h
          exact pS_while I hs fuel m st2 hi2 (by omega)
        | brk st2 => rw [eb] at h; exact h
        | ret r S => rw [eb] at h; exact h
        | exn c fs st2 => rw [eb] at h; exact h
        | bad => rw [eb] at h; exact h
/-- a comprehension over encoded items: what is behind, what it has given -/
theorem pR_comp {β : Type} {enc : β → W} {step : W → ST → R (Option W)} {all : List β} {q : List W → ST → Prop} (I : List β → List W → ST → Prop) (h0 : I [] [] st)
    (hs : ∀ pre y post acc st, all = pre ++ y :: post → I pre acc st → pR (step (enc y) st) (fun o st => I (pre ++ [y]) (acc ++ o.toList) st) x) (hd : ∀ acc st, I all acc st → q acc st) : pR (compL step (all.map enc) st) q x := by
  have key : ∀ (post pre : List β) (acc : List W) (st : ST) (q : List W → ST → Prop), all = pre ++ post → I pre acc st → (∀ ws st, I all (acc ++ ws) st → q ws st) → pR (compL step (post.map enc) st) q x := by
    intro post
    induction post with
    | nil =>
      intro pre acc st q e h hq
      rw [List.append_nil] at e
      subst e
      exact hq [] st (by rw [List.append_nil]; exact h)
    | cons y post ih =>
      intro pre acc st q e h hq
      have h1 := hs pre y post acc st e h
      rw [List.map_cons]
      unfold compL
      rw [pR_bind]
      refine pR_mono h1 (fun o st1 hi => ?_) fun _ _ _ z => z
      rw [pR_bind]
      refine ih (pre ++ [y]) _ st1 _ (by rw [e]; simp) hi fun ws st2 hw => ?_
      show q (o.toList ++ ws) st2
      exact hq _ _ (by rw [← List.append_assoc]; exact hw)
  exact key all [] [] st q rfl h0 fun ws st h => hd ws st h
end
/-! ### the walk -/
section
variable (C : CT)
def pE (e : IE) (st : ST) (q : RV → ST → Prop) (x : Nat → Flds → ST → Prop) : Prop := pR ((evB C e).v st) q x
def pT (e : IE) (st : ST) (q : Bool → ST → Prop) (x : Nat → Flds → ST → Prop) : Prop := pR ((evB C e).t st) q x
def pO (e : IE) (st : ST) (q : OV → ST → Prop) (x : Nat → Flds → ST → Prop) : Prop := pR (opd e (evB C e).v st) q x
def pA (a : IA) (st : ST) (q : List W → ST → Prop) (x : Nat → Flds → ST → Prop) : Prop := pR (evA C a st) q x
def pOs (a : IA) (st : ST) (q : List OV → ST → Prop) (x : Nat → Flds → ST → Prop) : Prop := pR (evO C a st) q x
def pI (a : SI) (st : ST) (q : List W → ST → Prop) (x : Nat → Flds → ST → Prop) : Prop := pR (evI C a st) q x
def pSt (s : IS) (st : ST) (Q : Qs) : Prop := pS (evS C s st) Q
def pSs (s : IB) (st : ST) (Q : Qs) : Prop := pS (evSs C s st) Q
/-- a for that is about to begin, a while, a comprehension, a call: here the walk halts -/
def pFor (g : TgI) (b : IB) (xs : List W) (st : ST) (Q : Qs) : Prop := pS (forL (stepF g (evSs C b)) xs st) Q
def pWhl (c : IE) (b : IB) (st : ST) (Q : Qs) : Prop := pS (evS C (.whl c b) st) Q
def pCmp (elt : IE) (g : TgI) (cond : IE) (has : Bool) (xs : List W) (st : ST) (q : RV → ST → Prop) : Prop := match compL (cStep (evB C cond).t (evB C elt).v g has) xs st with
  | .ok ws st1 => q (.f .lst ws) { st1 with env := restE g.vars st.env st1.env }
  | _ => False
end
section
variable {C : CT} {st st' : ST} {x : Nat → Flds → ST → Prop} {Q : Qs}
theorem pE_congr {e : IE} {q : RV → ST → Prop} (h : st = st') : pE C e st q x = pE C e st' q x := by rw [h]
theorem pT_congr {e : IE} {q : Bool → ST → Prop} (h : st = st') : pT C e st q x = pT C e st' q x := by rw [h]
theorem pO_congr {e : IE} {q : OV → ST → Prop} (h : st = st') : pO C e st q x = pO C e st' q x := by rw [h]
theorem pA_congr {e : IA} {q : List W → ST → Prop} (h : st = st') : pA C e st q x = pA C e st' q x := by rw [h]
theorem pOs_congr {e : IA} {q : List OV → ST → Prop} (h : st = st') : pOs C e st q x = pOs C e st' q x := by rw [h]
theorem pI_congr {e : SI} {q : List W → ST → Prop} (h : st = st') : pI C e st q x = pI C e st' q x := by rw [h]
theorem pSt_congr {s : IS} (h : st = st') : pSt C s st Q = pSt C s st' Q := by rw [h]
theorem pSs_congr {s : IB} (h : st = st') : pSs C s st Q = pSs C s st' Q := by rw [h]
theorem pFor_congr {g : TgI} {b : IB} {xs xs' : List W} (h : st = st') (h2 : xs = xs') : pFor C g b xs st Q = pFor C g b xs' st' Q := by rw [h, h2]
theorem pWhl_congr {c : IE} {b : IB} (h : st = st') : pWhl C c b st Q = pWhl C c b st' Q := by rw [h]
theorem pCmp_congr {elt cond : IE} {g : TgI} {has : Bool} {xs xs' : List W} {q : RV → ST → Prop} (h : st = st') (h2 : xs = xs') : pCmp C elt g cond has xs st q = pCmp C elt g cond has xs' st' q := by rw [h, h2]
/-- by two values, by one -/
def pV2 (f : W → W → Option RV) (a b : OV) (st : ST) (q : RV → ST → Prop) : Prop := match derefV a st, derefV b st with
  | some v, some w => (match f v w with
    | some r => q r st
    | none => False)
  | _, _ => False
def pV1 (f : W → Option RV) (a : OV) (st : ST) (q : RV → ST → Prop) : Prop := match (derefV a st).bind f with
  | some r => q r st
  | none => False
def pB1 (o : Option Bool) (st : ST) (q : Bool → ST → Prop) : Prop := match o with
  | some b => q b st
  | none => False
theorem pE_of {e : IE} {q : RV → ST → Prop} {m : ST → R RV} (h : (evB C e).v = m) : pE C e st q x = pR (m st) q x := by unfold pE; rw [h]
section
variable {q : RV → ST → Prop}
theorem pE_var {i : Nat} : pE C (.var i) st q x = (match st.env[i]? with
    | some (some (.val w)) => q (.v w) st
    | some (some (.own k ws)) => q (.v (.obj k ws)) ⟨st.env.set i (some (.val (.obj k ws))), st.sto⟩
    | _ => False) := by
  unfold pE
  simp only [evB, EB.of]
  split <;> simp_all [pR]
theorem pE_non : pE C .non st q x = q (.v .non) st := rfl
theorem pE_bl {b : Bool} : pE C (.bl b) st q x = q (.v (.bl b)) st := rfl
theorem pE_int {i : Int} : pE C (.int i) st q x = q (.v (.int i)) st := rfl
theorem pE_str {s : Str} : pE C (.str s) st q x = q (.v (.str s)) st := rfl
theorem pE_tup {a : IA} : pE C (.tup a) st q x = pA C a st (fun ws st => szOk ws.length = true ∧ q (.v (.tup ws)) st) x := by
  unfold pE pA
  simp only [evB, EB.of, pR_bind]
  cases evA C a st with
  | ok ws st1 => simp only [pR]; cases szOk ws.length <;> simp
  | _ => rfl
theorem pE_lst {a : IA} : pE C (.lst a) st q x = pA C a st (fun ws st => szOk ws.length = true ∧ q (.f .lst ws) st) x := by
  unfold pE pA
  simp only [evB, EB.of, pR_bind]
  cases evA C a st with
  | ok ws st1 => simp only [pR]; cases szOk ws.length <;> simp
  | _ => rfl
theorem pR_v2 {f : W → W → Option RV} {a b : OV} : pR (match derefV a st, derefV b st with
    | some v, some w => (match f v w with
      | some r => .ok r st
      | none => .bad)
    | _, _ => .bad) q x = pV2 f a b st q := by
  unfold pV2
  cases derefV a st with
  | none => rfl
  | some v =>
    cases derefV b st with
    | none => rfl
    | some w => cases hf : f v w <;> simp [hf, pR]
theorem pE_bin1 {e : IE} {f : W → W → Option RV} {a b : IE} (h : (evB C e).v = bin1 f (opd a (evB C a).v) (opd b (evB C b).v)) : pE C e st q x = pO C a st (fun u st => pO C b st (fun v st => pV2 f u v st q) x) x := by
  unfold pE pO bin1 at *
  rw [h]
  dsimp only
  rw [pR_bind]
  cases opd a (evB C a).v st with
  | ok u st1 =>
    simp only [pR_ok]
    rw [pR_bind]
    cases opd b (evB C b).v st1 with
    | ok v st2 => exact pR_v2
    | _ => rfl
  | _ => rfl
theorem pE_bin {o : Op2} {a b : IE} : pE C (.bin o a b) st q x = pO C a st (fun u st => pO C b st (fun v st => pV2 (op2 o) u v st q) x) x := pE_bin1 (by simp only [evB, EB.of])
theorem pE_cmp {o : Cp} {a b : IE} : pE C (.cmp o a b) st q x = pO C a st (fun u st => pO C b st (fun v st => pV2 (fun v w => vB (cmp2 o v w)) u v st q) x) x := pE_bin1 (by simp only [evB, EB.of])
theorem pE_idx {a b : IE} : pE C (.idx a b) st q x = pO C a st (fun u st => pO C b st (fun v st => pV2 (fun v w => (idx2 v w).map .v) u v st q) x) x := pE_bin1 (by simp only [evB, EB.of])
theorem pE_sfrom {a b : IE} : pE C (.sfrom a b) st q x = pO C a st (fun u st => pO C b st (fun v st => pV2 (fun v w => (toI w).bind fun i => slc2 (some i) none v) u v st q) x) x := pE_bin1 (by simp only [evB, EB.of])
theorem pE_upto {a b : IE} : pE C (.upto a b) st q x = pO C a st (fun u st => pO C b st (fun v st => pV2 (fun v w => (toI w).bind fun i => slc2 none (some i) v) u v st q) x) x := pE_bin1 (by simp only [evB, EB.of])
theorem pE_cut {a lo hi : IE} : pE C (.cut a lo hi) st q x = pO C a st (fun u st => pO C lo st (fun v st => match (derefV v st).bind toI with
    | some i => pO C hi st (fun w st => match derefV u st, (derefV w st).bind toI with
      | some z, some j => (match slc2 (some i) (some j) z with
        | some r => q r st
        | none => False)
      | _, _ => False) x
    | none => False) x) x := by
  unfold pE pO
  simp only [evB, EB.of, cut1]
  rw [pR_bind]
  cases opd a (evB C a).v st with
  | ok u st1 =>
    simp only [pR_ok]
    rw [pR_bind]
    cases opd lo (evB C lo).v st1 with
    | ok v st2 =>
      simp only [pR_ok]
      cases hv : (derefV v st2).bind toI with
      | none => rfl
      | some i =>
        dsimp only
        rw [pR_bind]
        cases opd hi (evB C hi).v st2 with
        | ok w st3 =>
          simp only [pR_ok]
          cases derefV u st3 with
          | none => rfl
          | some z =>
            cases (derefV w st3).bind toI with
            | none => rfl
            | some j =>
              dsimp only
              cases hs : slc2 (some i) (some j) z <;> rfl
        | _ => rfl
    | _ => rfl
  | _ => rfl
theorem pE_un1 {e : IE} {f : W → Option RV} {a : IE} (h : (evB C e).v = fun st => un1 f (opd a (evB C a).v st)) : pE C e st q x = pO C a st (fun u st => pV1 f u st q) x := by
  unfold pE pO
  rw [h]
  simp only [un1]
  rw [pR_bind]
  cases opd a (evB C a).v st with
  | ok u st1 =>
    simp only [pR_ok]
    unfold pV1
    cases (derefV u st1).bind f <;> rfl
  | _ => rfl
def revW : W → Option RV := fun v => match v with
  | .obj .lst xs => some (.f .lst xs.reverse)
  | _ => none
theorem pE_rev {a : IE} : pE C (.rev a) st q x = pO C a st (fun u st => pV1 revW u st q) x := pE_un1 (by simp only [evB, EB.of]; rfl)
def slenW : W → Option RV := fun v => match v with
  | .tup xs => (strsW xs).bind fun ys => if decide (ys.length + 1 < scanBound) then some (.v (.int (news ys ys.length : Nat))) else none
  | _ => none
theorem pE_setLen {a : IE} : pE C (.setLen a) st q x = pO C a st (fun u st => pV1 slenW u st q) x := pE_un1 (by simp only [evB, EB.of]; rfl)
theorem pE_isT {a : IE} {t : Tn} : pE C (.isT a t) st q x = pO C a st (fun u st => pV1 (fun v => vB (isTn v t)) u st q) x := pE_un1 (by simp only [evB, EB.of])
theorem pE_andE {a b : IE} : pE C (.andE a b) st q x = pE C a st (fun r st => match r with
    | .v (.bl true) => pE C b st q x
    | .v (.bl false) => q (.v (.bl false)) st
    | _ => False) x := by
  unfold pE
  simp only [evB]
  rw [pR_bind]
  cases (evB C a).v st with
  | ok r st1 => simp only [pR_ok]; split <;> simp_all [pR]
  | _ => rfl
theorem pE_orE {a b : IE} : pE C (.orE a b) st q x = pE C a st (fun r st => match r with
    | .v (.bl true) => q (.v (.bl true)) st
    | .v (.bl false) => pE C b st q x
    | _ => False) x := by
  unfold pE
  simp only [evB]
  rw [pR_bind]
  cases (evB C a).v st with
  | ok r st1 => simp only [pR_ok]; split <;> simp_all [pR]
  | _ => rfl
theorem pE_notE {a : IE} : pE C (.notE a) st q x = pE C a st (fun r st => match r with
    | .v (.bl c) => q (.v (.bl (!c))) st
    | _ => False) x := by
  unfold pE
  simp only [evB]
  rw [pR_bind]
  cases (evB C a).v st with
  | ok r st1 => simp only [pR_ok]; split <;> simp_all [pR]
  | _ => rfl
theorem pE_ifE {c a b : IE} : pE C (.ifE c a b) st q x = pT C c st (fun k st => if k = true then pE C a st (fun r st => q (.v r.w) st) x else pE C b st (fun r st => q (.v r.w) st) x) x := by
  unfold pE pT
  simp only [evB, EB.of]
  rw [pR_bind]
  cases (evB C c).t st with
  | ok k st1 => simp only [pR_ok]; cases k <;> simp [pR_bind, pR_ok]
  | _ => rfl
theorem pE_call {f : Nat} {a : IA} : pE C (.call f a) st q x = pA C a st (fun ws st => pC (C f ws st.sto) (fun r S => q r ⟨st.env, S⟩) (fun c fs S => x c fs ⟨st.env, S⟩)) x := by
  unfold pE pA
  simp only [evB, EB.of]
  rw [pR_bind]
  cases evA C a st with
  | ok ws st1 => exact pR_callR
  | _ => rfl
theorem pE_blt {f : Bf} {a : IA} : pE C (.blt f a) st q x = pOs C a st (fun os st => match (derefs st os).bind (blt1 f) with
    | some r => q r st
    | none => False) x := by
  unfold pE pOs
  simp only [evB, EB.of]
  rw [pR_bind]
  cases evO C a st with
  | ok os st1 => simp only [pR_ok]; cases (derefs st1 os).bind (blt1 f) <;> rfl
  | _ => rfl
theorem pE_pop {i : Nat} {e : IE} : pE C (.pop i e) st q x = (match st.env[i]? with
    | some (some (.own .lst _)) => pE C e st (fun k st => pR (popR i k.w st) q x) x
    | _ => False) := by
  unfold pE
  simp only [evB, EB.of]
  split
  · rename_i h
    first
      | (rw [pR_bind, h]; done)
      | (rw [pR_bind]; done)
  · rename_i h
    first
      | rfl
      | (split
         · rename_i h2; exact (h _ h2).elim
         · rfl)
theorem pE_comp {elt : IE} {g : TgI} {src : SI} {cond : IE} {has : Bool} : pE C (.comp elt g src cond has) st q x = pI C src st (fun xs st => pCmp C elt g cond has xs st q) x := by
  unfold pE pI
  simp only [evB, EB.of]
  rw [pR_bind]
  cases evI C src st with
  | ok xs st1 =>
    simp only [pR_ok]
    unfold pCmp
    cases compL (cStep (evB C cond).t (evB C elt).v g has) xs st1 <;> rfl
  | _ => rfl
theorem pE_nref {e : IE} : pE C (.nref e) st q x = pE C e st (fun r st => match r with
    | .f k ws => q (.v (.ref st.sto.length)) ⟨st.env, st.sto ++ [⟨k, ws⟩]⟩
    | _ => False) x := by
  unfold pE
  simp only [evB, EB.of]
  rw [pR_bind]
  cases (evB C e).v st with
  | ok r st1 => cases r <;> rfl
  | _ => rfl
def pM1 (f : W → W → Option RV) (a b : OV) (st : ST) (q : RV → ST → Prop) : Prop := pV2 f a b st q
theorem pE_idxOf {a b : IE} : pE C (.idxOf a b) st q x = pO C a st (fun u st => (derefV u st).map isLst = some true ∧ pO C b st (fun v st => pV2 idxOf2 u v st q) x) x := by
  unfold pE pO
  simp only [evB, EB.of, meth1]
  rw [pR_bind]
  cases opd a (evB C a).v st with
  | ok u st1 =>
    simp only [pR_ok]
    split
    · rename_i hc
      rw [pR_bind]
      simp only [hc, true_and]
      cases opd b (evB C b).v st1 with
      | ok v st2 => exact pR_v2
      | _ => rfl
    · rename_i hc
      rw [pR_bad]
      simp only [eq_iff_iff, false_iff]
      exact fun z => hc z.1
  | _ => rfl
end
/-! ### operands, tests, lists of values, what is walked -/
theorem pO_var {i : Nat} {q : OV → ST → Prop} : pO C (.var i) st q x = (match st.env[i]? with
    | some (some _) => q (.b i) st
    | _ => False) := by
  unfold pO
  simp only [opd]
  split <;> simp_all [pR]
def notVar : IE → Bool
  | .var _ => false
  | _ => true
theorem pO_other {e : IE} {q : OV → ST → Prop} (h : notVar e = true) : pO C e st q x = pE C e st (fun r st => q (.v r.w) st) x := by
  have : opd e (evB C e).v st = ((evB C e).v st).bind fun v st => .ok (.v v.w) st := by
    cases e <;> first | rfl | cases h
  unfold pO pE
  rw [this, pR_bind]
  cases (evB C e).v st <;> rfl
/-- the forms whose test is their value's truth -/
def plainI : IE → Bool
  | .andE _ _ => false
  | .orE _ _ => false
  | .notE _ => false
  | _ => true
theorem pT_other {e : IE} {q : Bool → ST → Prop} (h : plainI e = true) : pT C e st q x = pO C e st (fun o st => pB1 ((derefV o st).bind truth) st q) x := by
  have : (evB C e).t st = tst (opd e (evB C e).v st) := by
    cases e <;> first | (simp only [evB, EB.of]; done) | (simp only [evB, EB.of]; rfl) | cases h
  unfold pT pO
  rw [this]
  unfold tst
  rw [pR_bind]
  cases opd e (evB C e).v st with
  | ok o st1 => simp only [pR_ok]; unfold pB1; cases (derefV o st1).bind truth <;> rfl
  | _ => rfl
theorem pT_andE {a b : IE} {q : Bool → ST → Prop} : pT C (.andE a b) st q x = pT C a st (fun c st => if c = true then pT C b st q x else q false st) x := by
  unfold pT
  simp only [evB]
  rw [pR_bind]
  cases (evB C a).t st with
  | ok c st1 => cases c <;> rfl
  | _ => rfl
theorem pT_orE {a b : IE} {q : Bool → ST → Prop} : pT C (.orE a b) st q x = pT C a st (fun c st => if c = true then q true st else pT C b st q x) x := by
  unfold pT
  simp only [evB]
  rw [pR_bind]
  cases (evB C a).t st with
  | ok c st1 => cases c <;> rfl
  | _ => rfl
theorem pT_notE {a : IE} {q : Bool → ST → Prop} : pT C (.notE a) st q x = pT C a st (fun c st => q (!c) st) x := by
  unfold pT
  simp only [evB]
  rw [pR_bind]
  cases (evB C a).t st <;> rfl
theorem pA_nil {q : List W → ST → Prop} : pA C .nil st q x = q [] st := rfl
theorem pA_cons {e : IE} {r : IA} {q : List W → ST → Prop} : pA C (.cons e r) st q x = pE C e st (fun v st => pA C r st (fun ws st => q (v.w :: ws) st) x) x := by
  unfold pA pE
  simp only [evA]
  rw [pR_bind]
  cases (evB C e).v st with
  | ok v st1 => simp only [pR_ok]; rw [pR_bind]; cases evA C r st1 <;> rfl
  | _ => rfl
theorem pOs_nil {q : List OV → ST → Prop} : pOs C .nil st q x = q [] st := rfl
theorem pOs_cons {e : IE} {r : IA} {q : List OV → ST → Prop} : pOs C (.cons e r) st q x = pO C e st (fun v st => pOs C r st (fun ws st => q (v :: ws) st) x) x := by
  unfold pOs pO
  simp only [evO]
  rw [pR_bind]
  cases opd e (evB C e).v st with
  | ok v st1 => simp only [pR_ok]; rw [pR_bind]; cases evO C r st1 <;> rfl
  | _ => rfl
theorem pI_seq {e : IE} {q : List W → ST → Prop} : pI C (.seq e) st q x = pE C e st (fun r st => match items r.w with
    | some xs => q xs st
    | none => False) x := by
  unfold pI pE
  simp only [evI]
  rw [pR_bind]
  cases (evB C e).v st with
  | ok r st1 => simp only [pR_ok]; cases h : items r.w <;> simp [h, pR]
  | _ => rfl
theorem pI_rng {e : IE} {q : List W → ST → Prop} : pI C (.rng e) st q x = pE C e st (fun r st => match r.w with
    | .int j => rngOk j = true ∧ q (rngW j) st
    | _ => False) x := by
  unfold pI pE
  simp only [evI]
  rw [pR_bind]
  cases (evB C e).v st with
  | ok r st1 =>
    simp only [pR_ok]
    split
    · rename_i j hj
      cases h : rngOk j <;> simp_all [pR]
    · simp_all [pR]
  | _ => rfl
theorem pI_enm {e : IE} {q : List W → ST → Prop} : pI C (.enm e) st q x = pE C e st (fun r st => match items r.w with
    | some xs => q (enumW 0 xs) st
    | none => False) x := by
  unfold pI pE
  simp only [evI]
  rw [pR_bind]
  cases (evB C e).v st with
  | ok r st1 => simp only [pR_ok]; cases h : items r.w <;> simp [h, pR]
  | _ => rfl
/-! ### statements -/
theorem pSs_nil : pSs C .nil st Q = Q.nx st := rfl
theorem pSs_cons {s : IS} {r : IB} : pSs C (.cons s r) st Q = pSt C s st { Q with nx := fun st => pSs C r st Q } := by
  unfold pSs pSt
  simp only [evSs]
  rw [pS_then]
theorem pSt_asg {i : Nat} {e : IE} : pSt C (.asg i e) st Q = pE C e st (fun r st => Q.nx ⟨st.env.set i (some (slOf r)), st.sto⟩) Q.ex := by
  unfold pSt pE
  simp only [evS, ev]
  rw [pS_of]
  cases (evB C e).v st <;> rfl
theorem pSt_unp {l : List Nat} {e : IE} : pSt C (.unp l e) st Q = pE C e st (fun r st => match setT (.tp l) r.w st.env with
    | some env => Q.nx ⟨env, st.sto⟩
    | none => False) Q.ex := by
  unfold pSt pE
  simp only [evS, ev]
  rw [pS_of]
  cases (evB C e).v st with
  | ok r st1 => simp only [pR_ok]; cases h : setT (.tp l) r.w st1.env <;> simp [h, pS]
  | _ => rfl
theorem pSt_par {i j : Nat} {a b : IE} : pSt C (.par i j a b) st Q = pE C a st (fun r st => pE C b st (fun u st => Q.nx ⟨(st.env.set i (some (slOf r))).set j (some (slOf u)), st.sto⟩) Q.ex) Q.ex := by
  unfold pSt pE
  simp only [evS, ev]
  rw [pS_of]
  cases (evB C a).v st with
  | ok r st1 => simp only [pR_ok]; rw [pS_of]; cases (evB C b).v st1 <;> rfl
  | _ => rfl
def pSetI (r : RV) (a b : OV) (st : ST) (n : ST → Prop) : Prop := match deref a st.env, deref b st.env with
  | some (.ref m), some (.int j) => (match st.sto[m]? with
    | some ⟨.lst, ws⟩ => (match ixN ws.length j with
      | some q => n ⟨st.env, st.sto.set m (.lst (ws.set q r.w))⟩
      | none => False)
    | _ => False)
  | _, _ => False
theorem pSt_setI {o k e : IE} : pSt C (.setI o k e) st Q = pE C e st (fun r st => pO C o st (fun a st => pO C k st (fun b st => pSetI r a b st Q.nx) Q.ex) Q.ex) Q.ex := by
  unfold pSt pE pO
  have eo : ev C o = (evB C o).v := rfl
  have ek : ev C k = (evB C k).v := rfl
  simp only [evS, pS_of, eo, ek, show ev C e st = (evB C e).v st from rfl]
  cases (evB C e).v st with
  | ok r st1 =>
    simp only [pR_ok]
    cases opd o (evB C o).v st1 with
    | ok a st2 =>
      simp only [pR_ok]
      cases opd k (evB C k).v st2 with
      | ok b st3 =>
        simp only [pR_ok]
        unfold pSetI
        repeat' split
        all_goals simp_all [pS]
      | _ => rfl
    | _ => rfl
  | _ => rfl
def pAppO (i : Nat) (r : RV) (st : ST) (n : ST → Prop) : Prop := match st.env[i]? with
  | some (some (.own .lst ws)) => szOk (ws.length + 1) = true ∧ n ⟨st.env.set i (some (.own .lst (ws ++ [r.w]))), st.sto⟩
  | _ => False
def pAppR (i : Nat) (r : RV) (st : ST) (n : ST → Prop) : Prop := match st.env[i]? with
  | some (some (.val (.ref m))) => (match st.sto[m]? with
    | some ⟨.lst, ws⟩ => szOk (ws.length + 1) = true ∧ n ⟨st.env, st.sto.set m (.lst (ws ++ [r.w]))⟩
    | _ => False)
  | _ => False
theorem pSt_app {i : Nat} {e : IE} : pSt C (.app i e) st Q = (match st.env[i]? with
    | some (some (.own .lst _)) => pE C e st (fun r st => pAppO i r st Q.nx) Q.ex
    | some (some (.val (.ref n0))) => (match st.sto[n0]? with
      | some ⟨.lst, _⟩ => pE C e st (fun r st => pAppR i r st Q.nx) Q.ex
      | _ => False)
    | _ => False) := by
  unfold pSt pE
  simp only [evS, ev]
  cases h : st.env[i]? with
  | none => rfl
  | some o =>
    cases o with
    | none => rfl
    | some sl =>
      cases sl with
      | own k ws0 =>
        cases k with
        | lst =>
          dsimp only
          rw [pS_of]
          cases (evB C e).v st with
          | ok r st1 =>
            simp only [pR_ok]
            unfold pAppO
            repeat' split
            all_goals simp_all [pS]
          | _ => rfl
        | _ => rfl
      | val w =>
        cases w with
        | ref n0 =>
          dsimp only
          cases h2 : st.sto[n0]? with
          | none => rfl
          | some so =>
            obtain ⟨k, ws0⟩ := so
            cases k with
            | lst =>
              dsimp only
              rw [pS_of]
              cases (evB C e).v st with
              | ok r st1 =>
                simp only [pR_ok]
                unfold pAppR
                repeat' split
                all_goals simp_all [pS]
              | _ => rfl
            | _ => rfl
        | _ => rfl
theorem pSt_ex {e : IE} : pSt C (.ex e) st Q = pE C e st (fun _ st => Q.nx st) Q.ex := by
  unfold pSt pE
  simp only [evS, ev]
  rw [pS_of]
  cases (evB C e).v st <;> rfl
theorem pSt_ifS {c : IE} {a b : IB} : pSt C (.ifS c a b) st Q = pT C c st (fun k st => if k = true then pSs C a st Q else pSs C b st Q) Q.ex := by
  unfold pSt pT pSs
  simp only [evS, evT]
  rw [pS_of]
  cases (evB C c).t st with
  | ok k st1 => cases k <;> rfl
  | _ => rfl
theorem pSt_whl {c : IE} {b : IB} : pSt C (.whl c b) st Q = pWhl C c b st Q := rfl
theorem pSt_forS {g : TgI} {s : SI} {b : IB} : pSt C (.forS g s b) st Q = pI C s st (fun xs st => pFor C g b xs st Q) Q.ex := by
  unfold pSt pI pFor
  simp only [evS]
  rw [pS_of]
def pRet (o : Option (Option Sl)) (S : List SO) (n : RV → List SO → Prop) : Prop := match o with
  | some (some (.own k ws)) => n (.f k ws) S
  | some (some (.val w)) => n (.v w) S
  | _ => False
theorem pSt_retV {i : Nat} : pSt C (.ret (.var i)) st Q = pRet st.env[i]? st.sto Q.rt := by
  unfold pSt pRet
  simp only [evS]
  split <;> simp_all [pS]
theorem pSt_ret {e : IE} (h : notVar e = true) : pSt C (.ret e) st Q = pE C e st (fun r st => Q.rt r st.sto) Q.ex := by
  have : evS C (.ret e) st = RS.of (ev C e st) fun r st => .ret r st.sto := by
    cases e <;> first | rfl | cases h
  unfold pSt pE
  rw [this, pS_of]
  simp only [ev]
  cases (evB C e).v st <;> rfl
theorem pSt_retN : pSt C .retN st Q = Q.rt (.v .non) st.sto := rfl
theorem pSt_pass : pSt C .pass st Q = Q.nx st := rfl
theorem pSt_brk : pSt C .brk st Q = Q.bk st := rfl
theorem pSt_cnt : pSt C .cnt st Q = Q.ct st := rfl
theorem pSt_nvr : pSt C .nvr st Q = False := rfl
theorem pSt_rse {c : Nat} {fs : List Str} {a : IA} : pSt C (.rse c fs a) st Q = pA C a st (fun ws st => ws.length = fs.length ∧ Q.ex c (fs.zip ws).reverse st) Q.ex := by
  unfold pSt pA
  simp only [evS]
  rw [pS_of]
  cases evA C a st with
  | ok ws st1 =>
    simp only [pR_ok]
    by_cases h : ws.length = fs.length
    · simp [h, pS, pR]
    · simp [h, pS, pR]
  | _ => rfl
theorem pSt_tryE {b : IB} {hs : List Hd} : pSt C (.tryE b hs) st Q = pSs C b st { Q with ex := fun c fs st => pS (hRun hs c fs st) Q } := by
  unfold pSt pSs
  simp only [evS]
  cases evSs C b st <;> rfl
theorem pC_enter {T : FT} {k f : Nat} {fn : FnI} {ws : List W} {S : List SO} {qc : RV → List SO → Prop} {xc : Nat → Flds → List SO → Prop} (h : T.lookup f = some fn) (hl : (ws.length == fn.np) = true)
    (g : pSs (callN T k) fn.body ⟨entryE fn.ns ws, S⟩ ⟨fun st => qc (.v .non) st.sto, qc, fun _ => False, fun _ => False, fun c fs st => xc c fs st.sto⟩) : pC (callN T (k + 1) f ws S) qc xc := pC_call h hl g
/-! ### loops -/
theorem pFor_inv {β : Type} {enc : β → W} {g : TgI} {b : IB} {all : List β} (I : List β → List β → ST → Prop) (h0 : I [] all st)
    (hs : ∀ pre y post st, all = pre ++ y :: post → I pre (y :: post) st → (match setT g (enc y) st.env with
      | some env => pSs C b ⟨env, st.sto⟩ { Q with nx := I (pre ++ [y]) post, ct := I (pre ++ [y]) post, bk := Q.nx }
      | none => False)) (hd : ∀ st, I all [] st → Q.nx st) : pFor C g b (all.map enc) st Q := by
  refine pS_forM I h0 (fun pre y post st e h => ?_) hd
  have := hs pre y post st e h
  unfold stepF
  cases hg : setT g (enc y) st.env with
  | none => rw [hg] at this; exact this
  | some env => rw [hg] at this; exact this
theorem pWhl_inv {c : IE} {b : IB} (I : Nat → ST → Prop) (n : Nat) (hn : n < FU) (h0 : I n st) (hs : ∀ n st, I n st → pT C c st (fun k st => if k = true then pSs C b st { Q with nx := fun st => ∃ m, m < n ∧ I m st, ct := fun st => ∃ m, m < n ∧ I m st, bk := Q.nx } else Q.nx st) Q.ex) :
    pWhl C c b st Q := by
  unfold pWhl
  simp only [evS, evT]
  exact pS_while I hs FU n st h0 hn
/-- a comprehension that leaves the frame and the store alone, one name -/
theorem pCmp_map {β : Type} {f : β → W} {all : List β} {elt : IE} {i : Nat} {cond : IE} {has : Bool} {env : Env'} {S : List SO} {q : RV → ST → Prop} (g : β → Option W) (hi : i < env.length)
    (h : ∀ y ∈ all, (if has = true then pT C cond ⟨env.set i (some (.val (f y))), S⟩ (fun b st => st = ⟨env.set i (some (.val (f y))), S⟩ ∧ if b = true then pE C elt ⟨env.set i (some (.val (f y))), S⟩ (fun r st => st = ⟨env.set i (some (.val (f y))), S⟩ ∧ g y = some r.w) (fun _ _ _ => False) else g y = none) (fun _ _ _ => False)
      else pE C elt ⟨env.set i (some (.val (f y))), S⟩ (fun r st => st = ⟨env.set i (some (.val (f y))), S⟩ ∧ g y = some r.w) (fun _ _ _ => False)))
    (hq : q (.f .lst (all.filterMap g)) ⟨env.set i (keepV env[i]?), S⟩) : pCmp C elt (.nm i) cond has (all.map f) ⟨env, S⟩ q := by
  have key : ∀ (ys : List β), (∀ y ∈ ys, y ∈ all) → ∀ o, ∃ o', compL (cStep (evB C cond).t (evB C elt).v (.nm i) has) (ys.map f) ⟨env.set i o, S⟩ = .ok (ys.filterMap g) ⟨env.set i o', S⟩ := by
    intro ys
    induction ys with
    | nil => exact fun _ o => ⟨o, rfl⟩
    | cons y ys ih =>
      intro hy o
      obtain ⟨o', e⟩ := ih (fun z hz => hy z (List.mem_cons_of_mem _ hz)) (some (.val (f y)))
      have hstep : cStep (evB C cond).t (evB C elt).v (.nm i) has (f y) ⟨env.set i o, S⟩ = .ok (g y) ⟨env.set i (some (.val (f y))), S⟩ := by
        have q := h y (hy y List.mem_cons_self)
        unfold cStep
        simp only [TgI.vars, wipeE, setT, set_set_eq]
        cases has with
        | false =>
          rw [if_neg Bool.false_ne_true] at q ⊢
          unfold pE at q
          cases ev : (evB C elt).v ⟨env.set i (some (.val (f y))), S⟩ with
          | ok r st1 =>
            rw [ev] at q
            obtain ⟨q1, q2⟩ := q
            rw [q1, q2]; rfl
          | exn => rw [ev] at q; exact q.elim
          | bad => rw [ev] at q; exact q.elim
        | true =>
          rw [if_pos rfl] at q ⊢
          unfold pT at q
          cases et : (evB C cond).t ⟨env.set i (some (.val (f y))), S⟩ with
          | ok b st1 =>
            rw [et] at q
            obtain ⟨q1, q2⟩ := q
            rw [q1]
            show (if b = true then _ else _) = _
            cases b with
            | false =>
              rw [if_neg Bool.false_ne_true] at q2 ⊢
              rw [q2]
            | true =>
              rw [if_pos rfl] at q2 ⊢
              unfold pE at q2
              cases ev : (evB C elt).v ⟨env.set i (some (.val (f y))), S⟩ with
              | ok r st2 =>
                rw [ev] at q2
                obtain ⟨q3, q4⟩ := q2
                rw [q3, q4]; rfl
              | exn => rw [ev] at q2; exact q2.elim
              | bad => rw [ev] at q2; exact q2.elim
          | exn => rw [et] at q; exact q.elim
          | bad => rw [et] at q; exact q.elim
      refine ⟨o', ?_⟩
      rw [List.map_cons]
      unfold compL
      rw [hstep]
      simp only [R.bind, e]
      cases hg : g y <;> simp [hg]
  have e0 : env = env.set i env[i] := by rw [List.set_getElem_self]
  obtain ⟨o', e⟩ := key all (fun y hy => hy) env[i]
  rw [← e0] at e
  unfold pCmp
  rw [e]
  show q _ ⟨restE [i] env (env.set i o'), S⟩
  simp only [restE, set_set_eq]
  exact hq
end
end LL

set_option Elab.async false
set_option linter.all false
set_option maxRecDepth 100000
set_option maxHeartbeats 4000000
/-! Wq: the walk, once more, with what comes behind hidden from the simplifier (as an instance argument it stays as it is). -/
namespace LL
open PySem L2
class Ct (α : Type) where
  k : α → ST → Prop
class Xk where
  x : Nat → Flds → ST → Prop
class Cc where
  k : RV → List SO → Prop
class Xc where
  x : Nat → Flds → List SO → Prop
class Cq where
  p : Prop
@[reducible] def Qs.seq (Q : Qs) (n : ST → Prop) : Qs := { Q with nx := n }
section
variable {Q : Qs} {n : ST → Prop}
theorem Qs.seq_nx : (Q.seq n).nx = n := rfl
theorem Qs.seq_rt : (Q.seq n).rt = Q.rt := rfl
theorem Qs.seq_bk : (Q.seq n).bk = Q.bk := rfl
theorem Qs.seq_ct : (Q.seq n).ct = Q.ct := rfl
theorem Qs.seq_ex : (Q.seq n).ex = Q.ex := rfl
end
/-- the way in: what holds at the end of a body is what the caller wants -/
@[reducible] def Qs.fin (q : Cc) (x : Xc) : Qs := ⟨fun st => q.k (.v .non) st.sto, q.k, fun _ => False, fun _ => False, fun c fs st => x.x c fs st.sto⟩
section
variable {q : Cc} {x : Xc}
theorem Qs.fin_nx {st : ST} : (Qs.fin q x).nx st = q.k (.v .non) st.sto := rfl
theorem Qs.fin_rt {r : RV} {S : List SO} : (Qs.fin q x).rt r S = q.k r S := rfl
theorem Qs.fin_ex {c : Nat} {fs : Flds} {st : ST} : (Qs.fin q x).ex c fs st = x.x c fs st.sto := rfl
end
section
variable (C : CT)
def vE (e : IE) (st : ST) [q : Ct RV] [x : Xk] : Prop := pE C e st q.k x.x
def vT (e : IE) (st : ST) [q : Ct Bool] [x : Xk] : Prop := pT C e st q.k x.x
def vO (e : IE) (st : ST) [q : Ct OV] [x : Xk] : Prop := pO C e st q.k x.x
def vA (a : IA) (st : ST) [q : Ct (List W)] [x : Xk] : Prop := pA C a st q.k x.x
def vOs (a : IA) (st : ST) [q : Ct (List OV)] [x : Xk] : Prop := pOs C a st q.k x.x
def vI (a : SI) (st : ST) [q : Ct (List W)] [x : Xk] : Prop := pI C a st q.k x.x
def vS (s : IS) (st : ST) [Q : Qs] : Prop := pSt C s st Q
def vSs (s : IB) (st : ST) [Q : Qs] : Prop := pSs C s st Q
def vFor (g : TgI) (b : IB) (xs : List W) (st : ST) [Q : Qs] : Prop := pFor C g b xs st Q
def vWhl (c : IE) (b : IB) (st : ST) [Q : Qs] : Prop := pWhl C c b st Q
def vCmp (elt : IE) (g : TgI) (cond : IE) (has : Bool) (xs : List W) (st : ST) [q : Ct RV] : Prop := pCmp C elt g cond has xs st q.k
end
def vK (r : RC) [q : Cc] [x : Xc] : Prop := pC r q.k x.x
def vHr (hs : List Hd) (c : Nat) (fs : Flds) (st : ST) [Q : Qs] : Prop := pS (hRun hs c fs st) Q
/-- by an option: what is not there is a fault -/
def vOp {α : Type} (o : Option α) (st : ST) [q : Ct α] : Prop := match o with
  | some r => q.k r st
  | none => False
theorem vOp_some {α : Type} {r : α} {st : ST} {q : Ct α} : @vOp α (some r) st q = q.k r st := rfl
theorem vOp_none {α : Type} {st : ST} {q : Ct α} : @vOp α none st q = False := rfl
def vOq {α : Type} (o : Option (α × ST)) [q : Ct α] : Prop := match o with
  | some (r, st) => q.k r st
  | none => False
theorem vOq_some {α : Type} {r : α} {st : ST} {q : Ct α} : @vOq α (some (r, st)) q = q.k r st := rfl
theorem vOq_none {α : Type} {q : Ct α} : @vOq α none q = False := rfl
def vN (o : Option ST) [Q : Qs] : Prop := match o with
  | some st => Q.nx st
  | none => False
theorem vN_some {st : ST} {Q : Qs} : @vN (some st) Q = Q.nx st := rfl
theorem vN_none {Q : Qs} : @vN none Q = False := rfl
def vRt (o : Option RV) (S : List SO) [Q : Qs] : Prop := match o with
  | some r => Q.rt r S
  | none => False
theorem vRt_some {r : RV} {S : List SO} {Q : Qs} : @vRt (some r) S Q = Q.rt r S := rfl
theorem vRt_none {S : List SO} {Q : Qs} : @vRt none S Q = False := rfl
/-- two ways -/
def vIf (b : Bool) [A : Cq] [B : Cq] : Prop := if b = true then A.p else B.p
theorem vIf_true {A B : Cq} : @vIf true A B = A.p := rfl
theorem vIf_false {A B : Cq} : @vIf false A B = B.p := rfl
theorem vIf_split {b : Bool} {A B : Cq} (h1 : b = true → A.p) (h2 : b = false → B.p) : @vIf b A B := by
  cases b with
  | true => exact h1 rfl
  | false => exact h2 rfl
/-- first this, then that -/
def vGd (b : Bool) [A : Cq] : Prop := b = true ∧ A.p
theorem vGd_true {A : Cq} : @vGd true A = A.p := by unfold vGd; simp
theorem vGd_false {A : Cq} : @vGd false A = False := by unfold vGd; simp
theorem vGd_intro {b : Bool} {A : Cq} (h : b = true) (h2 : A.p) : @vGd b A := ⟨h, h2⟩
/-- what a loop keeps, at the end of a turn -/
class Ip where
  p : ST → Prop
@[reducible] def wInv (st : ST) [i : Ip] : Prop := i.p st
/-! what is computed on the way -/
def varO (o : Option (Option Sl)) (i : Nat) (st : ST) : Option (RV × ST) := match o with
  | some (some (.val w)) => some (.v w, st)
  | some (some (.own k ws)) => some (.v (.obj k ws), ⟨st.env.set i (some (.val (.obj k ws))), st.sto⟩)
  | _ => none
def opO (o : Option (Option Sl)) (i : Nat) : Option OV := match o with
  | some (some _) => some (.b i)
  | _ => none
def retO (o : Option (Option Sl)) : Option RV := match o with
  | some (some (.own k ws)) => some (.f k ws)
  | some (some (.val w)) => some (.v w)
  | _ => none
def pv2 (f : W → W → Option RV) (a b : OV) (st : ST) : Option RV := match derefV a st, derefV b st with
  | some v, some w => f v w
  | _, _ => none
def pv1 (f : W → Option RV) (a : OV) (st : ST) : Option RV := match derefV a st with
  | some v => f v
  | _ => none
def pvB (a : OV) (st : ST) : Option Bool := match derefV a st with
  | some v => truth v
  | _ => none
def pvI (a : OV) (st : ST) : Option Int := match derefV a st with
  | some v => toI v
  | _ => none
def cutO (u w : OV) (i : Int) (st : ST) : Option RV := match derefV u st, pvI w st with
  | some z, some j => slc2 (some i) (some j) z
  | _, _ => none
def rvB (r : RV) : Option Bool := match r with
  | .v (.bl b) => some b
  | _ => none
def isOwnL (o : Option (Option Sl)) : Bool := match o with
  | some (some (.own .lst _)) => true
  | _ => false
def popO (o : Option (Option Sl)) (i : Nat) (w : W) (st : ST) : Option (RV × ST) := match w, o with
  | .int j, some (some (.own .lst ws)) => (match ixN ws.length j with
    | some n => (match ws[n]? with
      | some w => some (.v w, ⟨st.env.set i (some (.own .lst (ws.eraseIdx n))), st.sto⟩)
      | none => none)
    | none => none)
  | _, _ => none
def nrefO (r : RV) (st : ST) : Option (RV × ST) := match r with
  | .f k ws => some (.v (.ref st.sto.length), ⟨st.env, st.sto ++ [⟨k, ws⟩]⟩)
  | _ => none
def isLO (o : Option W) : Bool := match o with
  | some w => isLst w
  | none => false
def rngO (w : W) : Option (List W) := match w with
  | .int j => if rngOk j = true then some (rngW j) else none
  | _ => none
def enmO (w : W) : Option (List W) := (items w).map (enumW 0)
def setTO (g : TgI) (w : W) (st : ST) : Option ST := (setT g w st.env).map fun env => ⟨env, st.sto⟩
def setIO (r : RV) (o p : Option W) (st : ST) : Option ST := match o, p with
  | some (.ref m), some (.int j) => (match st.sto[m]? with
    | some ⟨.lst, ws⟩ => (match ixN ws.length j with
      | some q => some ⟨st.env, st.sto.set m (.lst (ws.set q r.w))⟩
      | none => none)
    | _ => none)
  | _, _ => none
def isAppL (o : Option (Option Sl)) (S : List SO) : Bool := match o with
  | some (some (.own .lst _)) => true
  | some (some (.val (.ref m))) => (match S[m]? with
    | some ⟨.lst, _⟩ => true
    | _ => false)
  | _ => false
def appO2 (b : Bool) (o : Option (Option Sl)) (i : Nat) (r : RV) (st : ST) : Option ST := match b, o with
  | true, some (some (.own .lst ws)) => if szOk (ws.length + 1) = true then some ⟨st.env.set i (some (.own .lst (ws ++ [r.w]))), st.sto⟩ else none
  | false, some (some (.val (.ref m))) => (match st.sto[m]? with
    | some ⟨.lst, ws⟩ => if szOk (ws.length + 1) = true then some ⟨st.env, st.sto.set m (.lst (ws ++ [r.w]))⟩ else none
    | _ => none)
  | _, _ => none
theorem szOk_small {n : Nat} (h : n ≤ 16777216) : szOk n = true := by
  unfold szOk
  exact decide_eq_true (show n ≤ PySem.sizeLine from (show PySem.sizeLine = 16777216 from rfl) ▸ h)
theorem rngOk_small {j : Int} (h : 0 ≤ j) (h2 : j ≤ 16777216) : rngOk j = true := by
  unfold rngOk
  rw [szOk_small (by omega), decide_eq_true (show (-(2 ^ 62) : Int) ≤ j by omega), decide_eq_true (show j < (2 ^ 62 : Int) by omega)]
  rfl
section
variable {C : CT} {st : ST} {x : Xk} {Q : Qs}
section
variable {q : Ct RV}
theorem vE_var {i : Nat} : @vE C (.var i) st q x = @vOq _ (varO st.env[i]? i st) q := by
  unfold vE varO
  rw [pE_var]
  repeat' split
  all_goals simp_all [vOq]
theorem vE_non : @vE C .non st q x = q.k (.v .non) st := rfl
theorem vE_bl {b : Bool} : @vE C (.bl b) st q x = q.k (.v (.bl b)) st := rfl
theorem vE_int {i : Int} : @vE C (.int i) st q x = q.k (.v (.int i)) st := rfl
theorem vE_str {s : Str} : @vE C (.str s) st q x = q.k (.v (.str s)) st := rfl
theorem vE_tup {a : IA} : @vE C (.tup a) st q x = @vA C a st ⟨fun ws st => @vGd (szOk ws.length) ⟨q.k (.v (.tup ws)) st⟩⟩ x := pE_tup
theorem vE_lst {a : IA} : @vE C (.lst a) st q x = @vA C a st ⟨fun ws st => @vGd (szOk ws.length) ⟨q.k (.f .lst ws) st⟩⟩ x := pE_lst
theorem w_v2 {f : W → W → Option RV} {u v : OV} : pV2 f u v st q.k = @vOp _ (pv2 f u v st) st q := by
  unfold pV2 pv2
  cases derefV u st with
  | none => rfl
  | some a =>
    cases derefV v st with
    | none => rfl
    | some b => dsimp only; cases f a b <;> rfl
theorem w_v1 {f : W → Option RV} {u : OV} : pV1 f u st q.k = @vOp _ (pv1 f u st) st q := by
  unfold pV1 pv1
  cases derefV u st with
  | none => rfl
  | some a => simp only [Option.bind_some]; cases f a <;> rfl
theorem vE_bin {o : Op2} {a b : IE} : @vE C (.bin o a b) st q x = @vO C a st ⟨fun u st => @vO C b st ⟨fun v st => @vOp _ (pv2 (op2 o) u v st) st q⟩ x⟩ x := by
  unfold vE vO
  rw [pE_bin]
  simp only [w_v2]
theorem vE_cmp {o : Cp} {a b : IE} : @vE C (.cmp o a b) st q x = @vO C a st ⟨fun u st => @vO C b st ⟨fun v st => @vOp _ (pv2 (fun v w => vB (cmp2 o v w)) u v st) st q⟩ x⟩ x := by
  unfold vE vO
  rw [pE_cmp]
  simp only [w_v2]
theorem vE_idx {a b : IE} : @vE C (.idx a b) st q x = @vO C a st ⟨fun u st => @vO C b st ⟨fun v st => @vOp _ (pv2 (fun v w => (idx2 v w).map .v) u v st) st q⟩ x⟩ x := by
  unfold vE vO
  rw [pE_idx]
  simp only [w_v2]
theorem vE_sfrom {a b : IE} : @vE C (.sfrom a b) st q x = @vO C a st ⟨fun u st => @vO C b st ⟨fun v st => @vOp _ (pv2 (fun v w => (toI w).bind fun i => slc2 (some i) none v) u v st) st q⟩ x⟩ x := by
  unfold vE vO
  rw [pE_sfrom]
  simp only [w_v2]
theorem vE_upto {a b : IE} : @vE C (.upto a b) st q x = @vO C a st ⟨fun u st => @vO C b st ⟨fun v st => @vOp _ (pv2 (fun v w => (toI w).bind fun i => slc2 none (some i) v) u v st) st q⟩ x⟩ x := by
  unfold vE vO
  rw [pE_upto]
  simp only [w_v2]
theorem vE_cut {a lo hi : IE} : @vE C (.cut a lo hi) st q x = @vO C a st ⟨fun u st => @vO C lo st ⟨fun v st => @vOp _ (pvI v st) st ⟨fun i st => @vO C hi st ⟨fun w st => @vOp _ (cutO u w i st) st q⟩ x⟩⟩ x⟩ x := by
  unfold vE vO
  rw [pE_cut]
  refine congrArg (fun k => pO C a st k x.x) (funext fun u => funext fun st => ?_)
  refine congrArg (fun k => pO C lo st k x.x) (funext fun v => funext fun st => ?_)
  show _ = @vOp _ (pvI v st) st ⟨fun i st => pO C hi st (fun w st => @vOp _ (cutO u w i st) st q) x.x⟩
  unfold pvI
  cases derefV v st with
  | none => rfl
  | some w =>
    simp only [Option.bind_some]
    cases toI w with
    | none => rfl
    | some i =>
      refine congrArg (fun k => pO C hi st k x.x) (funext fun w => funext fun st => ?_)
      show _ = @vOp _ (cutO u w i st) st q
      unfold cutO pvI
      cases derefV u st with
      | none => rfl
      | some z =>
        cases derefV w st with
        | none => rfl
        | some z2 =>
          simp only [Option.bind_some]
          cases toI z2 with
          | none => rfl
          | some j => dsimp only; cases slc2 (some i) (some j) z <;> rfl
theorem vE_rev {a : IE} : @vE C (.rev a) st q x = @vO C a st ⟨fun u st => @vOp _ (pv1 revW u st) st q⟩ x := by
  unfold vE vO
  rw [pE_rev]
  simp only [w_v1]
theorem vE_setLen {a : IE} : @vE C (.setLen a) st q x = @vO C a st ⟨fun u st => @vOp _ (pv1 slenW u st) st q⟩ x := by
  unfold vE vO
  rw [pE_setLen]
  simp only [w_v1]
theorem vE_isT {a : IE} {t : Tn} : @vE C (.isT a t) st q x = @vO C a st ⟨fun u st => @vOp _ (pv1 (fun v => vB (isTn v t)) u st) st q⟩ x := by
  unfold vE vO
  rw [pE_isT]
  simp only [w_v1]
theorem vE_andE {a b : IE} : @vE C (.andE a b) st q x = @vE C a st ⟨fun r st => @vOp _ (rvB r) st ⟨fun b1 st => @vIf b1 ⟨@vE C b st q x⟩ ⟨q.k (.v (.bl false)) st⟩⟩⟩ x := by
  unfold vE
  rw [pE_andE]
  refine congrArg (fun k => pE C a st k x.x) (funext fun r => funext fun st => ?_)
  show _ = @vOp _ (rvB r) st ⟨fun b1 st => @vIf b1 ⟨@vE C b st q x⟩ ⟨q.k (.v (.bl false)) st⟩⟩
  unfold rvB
  cases r with
  | f k ws => rfl
  | v w =>
    cases w with
    | bl b => cases b <;> rfl
    | _ => rfl
theorem vE_orE {a b : IE} : @vE C (.orE a b) st q x = @vE C a st ⟨fun r st => @vOp _ (rvB r) st ⟨fun b1 st => @vIf b1 ⟨q.k (.v (.bl true)) st⟩ ⟨@vE C b st q x⟩⟩⟩ x := by
  unfold vE
  rw [pE_orE]
  refine congrArg (fun k => pE C a st k x.x) (funext fun r => funext fun st => ?_)
  show _ = @vOp _ (rvB r) st ⟨fun b1 st => @vIf b1 ⟨q.k (.v (.bl true)) st⟩ ⟨@vE C b st q x⟩⟩
  unfold rvB
  cases r with
  | f k ws => rfl
  | v w =>
    cases w with
    | bl b => cases b <;> rfl
    | _ => rfl
theorem vE_notE {a : IE} : @vE C (.notE a) st q x = @vE C a st ⟨fun r st => @vOp _ (rvB r) st ⟨fun b1 st => q.k (.v (.bl (!b1))) st⟩⟩ x := by
  unfold vE
  rw [pE_notE]
  refine congrArg (fun k => pE C a st k x.x) (funext fun r => funext fun st => ?_)
  show _ = @vOp _ (rvB r) st ⟨fun b1 st => q.k (.v (.bl (!b1))) st⟩
  unfold rvB
  cases r with
  | f k ws => rfl
  | v w => cases w <;> rfl
theorem vE_ifE {c a b : IE} : @vE C (.ifE c a b) st q x = @vT C c st ⟨fun k st => @vIf k ⟨@vE C a st ⟨fun r st => q.k (.v r.w) st⟩ x⟩ ⟨@vE C b st ⟨fun r st => q.k (.v r.w) st⟩ x⟩⟩ x := pE_ifE
theorem vE_call {f : Nat} {a : IA} : @vE C (.call f a) st q x = @vA C a st ⟨fun ws st => @vK (C f ws st.sto) ⟨fun r S => q.k r ⟨st.env, S⟩⟩ ⟨fun c fs S => x.x c fs ⟨st.env, S⟩⟩⟩ x := pE_call
theorem vE_blt {f : Bf} {a : IA} : @vE C (.blt f a) st q x = @vOs C a st ⟨fun os st => @vOp _ ((derefs st os).bind (blt1 f)) st q⟩ x := by
  unfold vE
  rw [pE_blt]
  refine congrArg (fun k => pOs C a st k x.x) (funext fun os => funext fun st => ?_)
  show _ = @vOp _ ((derefs st os).bind (blt1 f)) st q
  cases (derefs st os).bind (blt1 f) <;> rfl
theorem vE_pop {i : Nat} {e : IE} : @vE C (.pop i e) st q x = @vGd (isOwnL st.env[i]?) ⟨@vE C e st ⟨fun k st => @vOq _ (popO st.env[i]? i k.w st) q⟩ x⟩ := by
  have key : ∀ (w : W) (st : ST), pR (popR i w st) q.k x.x = @vOq _ (popO st.env[i]? i w st) q := by
    intro w st
    unfold popR popO
    repeat' split
    all_goals simp_all [vOq, pR]
  unfold vE
  rw [pE_pop]
  unfold isOwnL
  simp only [key]
  split <;> simp_all [vGd]
theorem vE_comp {elt : IE} {g : TgI} {src : SI} {cond : IE} {has : Bool} : @vE C (.comp elt g src cond has) st q x = @vI C src st ⟨fun xs st => @vCmp C elt g cond has xs st q⟩ x := pE_comp
theorem vE_nref {e : IE} : @vE C (.nref e) st q x = @vE C e st ⟨fun r st => @vOq _ (nrefO r st) q⟩ x := by
  unfold vE
  rw [pE_nref]
  congr 1; funext r st
  unfold nrefO
  cases r <;> rfl
theorem vE_idxOf {a b : IE} : @vE C (.idxOf a b) st q x = @vO C a st ⟨fun u st => @vGd (isLO (derefV u st)) ⟨@vO C b st ⟨fun v st => @vOp _ (pv2 idxOf2 u v st) st q⟩ x⟩⟩ x := by
  unfold vE vO
  rw [pE_idxOf]
  congr 1; funext u st
  simp only [w_v2]
  unfold vGd isLO
  cases derefV u st <;> simp
end
theorem vO_var {i : Nat} {q : Ct OV} : @vO C (.var i) st q x = @vOp _ (opO st.env[i]? i) st q := by
  unfold vO opO
  rw [pO_var]
  repeat' split
  all_goals simp_all [vOp]
theorem vO_other {e : IE} {q : Ct OV} (h : notVar e = true) : @vO C e st q x = @vE C e st ⟨fun r st => q.k (.v r.w) st⟩ x := pO_other h
theorem vT_other {e : IE} {q : Ct Bool} (h : plainI e = true) : @vT C e st q x = @vO C e st ⟨fun o st => @vOp _ (pvB o st) st q⟩ x := by
  unfold vT vO
  rw [pT_other h]
  refine congrArg (fun k => pO C e st k x.x) (funext fun o => funext fun st => ?_)
  show _ = @vOp _ (pvB o st) st q
  unfold pB1 pvB
  cases derefV o st with
  | none => rfl
  | some w => simp only [Option.bind_some]; cases truth w <;> rfl
theorem vT_plain {e : IE} {q : Ct Bool} (h : plainI e = true) (h2 : notVar e = true) : @vT C e st q x = @vE C e st ⟨fun r st => @vOp _ (truth (vw st.sto r.w)) st q⟩ x := by
  rw [vT_other h, vO_other h2]
  rfl
theorem vT_andE {a b : IE} {q : Ct Bool} : @vT C (.andE a b) st q x = @vT C a st ⟨fun c st => @vIf c ⟨@vT C b st q x⟩ ⟨q.k false st⟩⟩ x := pT_andE
theorem vT_orE {a b : IE} {q : Ct Bool} : @vT C (.orE a b) st q x = @vT C a st ⟨fun c st => @vIf c ⟨q.k true st⟩ ⟨@vT C b st q x⟩⟩ x := pT_orE
theorem vT_notE {a : IE} {q : Ct Bool} : @vT C (.notE a) st q x = @vT C a st ⟨fun c st => q.k (!c) st⟩ x := pT_notE
theorem vA_nil {q : Ct (List W)} : @vA C .nil st q x = q.k [] st := rfl
theorem vA_cons {e : IE} {r : IA} {q : Ct (List W)} : @vA C (.cons e r) st q x = @vE C e st ⟨fun v st => @vA C r st ⟨fun ws st => q.k (v.w :: ws) st⟩ x⟩ x := pA_cons
theorem vOs_nil {q : Ct (List OV)} : @vOs C .nil st q x = q.k [] st := rfl
theorem vOs_cons {e : IE} {r : IA} {q : Ct (List OV)} : @vOs C (.cons e r) st q x = @vO C e st ⟨fun v st => @vOs C r st ⟨fun ws st => q.k (v :: ws) st⟩ x⟩ x := pOs_cons
theorem vI_seq {e : IE} {q : Ct (List W)} : @vI C (.seq e) st q x = @vE C e st ⟨fun r st => @vOp _ (items r.w) st q⟩ x := by
  unfold vI
  rw [pI_seq]
  refine congrArg (fun k => pE C e st k x.x) (funext fun r => funext fun st => ?_)
  show _ = @vOp _ (items r.w) st q
  cases items r.w <;> rfl
theorem vI_rng {e : IE} {q : Ct (List W)} : @vI C (.rng e) st q x = @vE C e st ⟨fun r st => @vOp _ (rngO r.w) st q⟩ x := by
  unfold vI vE
  rw [pI_rng]
  refine congrArg (fun k => pE C e st k x.x) (funext fun r => funext fun st => ?_)
  show _ = @vOp _ (rngO r.w) st q
  unfold rngO
  cases r.w with
  | int j => dsimp only; cases h : rngOk j <;> simp [vOp, h]
  | _ => rfl
theorem vI_enm {e : IE} {q : Ct (List W)} : @vI C (.enm e) st q x = @vE C e st ⟨fun r st => @vOp _ (enmO r.w) st q⟩ x := by
  unfold vI vE
  rw [pI_enm]
  refine congrArg (fun k => pE C e st k x.x) (funext fun r => funext fun st => ?_)
  show _ = @vOp _ (enmO r.w) st q
  unfold enmO
  cases items r.w <;> rfl
/-! ### statements -/
theorem vSs_nil : @vSs C .nil st Q = Q.nx st := rfl
theorem vSs_cons {s : IS} {r : IB} : @vSs C (.cons s r) st Q = @vS C s st (Q.seq fun st => @vSs C r st Q) := pSs_cons
theorem vS_asg {i : Nat} {e : IE} : @vS C (.asg i e) st Q = @vE C e st ⟨fun r st => Q.nx ⟨st.env.set i (some (slOf r)), st.sto⟩⟩ ⟨Q.ex⟩ := pSt_asg
theorem vS_unp {l : List Nat} {e : IE} : @vS C (.unp l e) st Q = @vE C e st ⟨fun r st => @vN (setTO (.tp l) r.w st) Q⟩ ⟨Q.ex⟩ := by
  unfold vS vE
  rw [pSt_unp]
  refine congrArg (fun k => pE C e st k Q.ex) (funext fun r => funext fun st => ?_)
  show _ = @vN (setTO (.tp l) r.w st) Q
  unfold setTO
  cases setT (.tp l) r.w st.env <;> rfl
theorem vS_par {i j : Nat} {a b : IE} : @vS C (.par i j a b) st Q = @vE C a st ⟨fun r st => @vE C b st ⟨fun u st => Q.nx ⟨(st.env.set i (some (slOf r))).set j (some (slOf u)), st.sto⟩⟩ ⟨Q.ex⟩⟩ ⟨Q.ex⟩ := pSt_par
theorem vS_setI {o k e : IE} : @vS C (.setI o k e) st Q = @vE C e st ⟨fun r st => @vO C o st ⟨fun a st => @vO C k st ⟨fun b st => @vN (setIO r (deref a st.env) (deref b st.env) st) Q⟩ ⟨Q.ex⟩⟩ ⟨Q.ex⟩⟩ ⟨Q.ex⟩ := by
  have key : ∀ (r : RV) (a b : OV) (st : ST), pSetI r a b st Q.nx = @vN (setIO r (deref a st.env) (deref b st.env) st) Q := by
    intro r a b st
    unfold pSetI setIO
    repeat' split
    all_goals simp_all [vN]
  unfold vS vE vO
  rw [pSt_setI]
  simp only [key]
theorem vS_ex {e : IE} : @vS C (.ex e) st Q = @vE C e st ⟨fun _ st => Q.nx st⟩ ⟨Q.ex⟩ := pSt_ex
theorem vS_ifS {c : IE} {a b : IB} : @vS C (.ifS c a b) st Q = @vT C c st ⟨fun k st => @vIf k ⟨@vSs C a st Q⟩ ⟨@vSs C b st Q⟩⟩ ⟨Q.ex⟩ := pSt_ifS
theorem vS_whl {c : IE} {b : IB} : @vS C (.whl c b) st Q = @vWhl C c b st Q := rfl
theorem vS_forS {g : TgI} {s : SI} {b : IB} : @vS C (.forS g s b) st Q = @vI C s st ⟨fun xs st => @vFor C g b xs st Q⟩ ⟨Q.ex⟩ := pSt_forS
theorem vS_retV {i : Nat} : @vS C (.ret (.var i)) st Q = @vRt (retO st.env[i]?) st.sto Q := by
  unfold vS retO
  rw [pSt_retV]
  unfold pRet
  repeat' split
  all_goals simp_all [vRt]
theorem vS_ret {e : IE} (h : notVar e = true) : @vS C (.ret e) st Q = @vE C e st ⟨fun r st => Q.rt r st.sto⟩ ⟨Q.ex⟩ := pSt_ret h
theorem vS_retN : @vS C .retN st Q = Q.rt (.v .non) st.sto := rfl
theorem vS_pass : @vS C .pass st Q = Q.nx st := rfl
theorem vS_brk : @vS C .brk st Q = Q.bk st := rfl
theorem vS_cnt : @vS C .cnt st Q = Q.ct st := rfl
theorem vS_nvr : @vS C .nvr st Q = False := rfl
theorem vS_rse {c : Nat} {fs : List Str} {a : IA} : @vS C (.rse c fs a) st Q = @vA C a st ⟨fun ws st => @vGd (ws.length == fs.length) ⟨Q.ex c (fs.zip ws).reverse st⟩⟩ ⟨Q.ex⟩ := by
  unfold vS vA
  rw [pSt_rse]
  congr 1; funext ws st
  unfold vGd
  simp
theorem vS_tryE {b : IB} {hs : List Hd} : @vS C (.tryE b hs) st Q = @vSs C b st { Q with ex := fun c fs st => @vHr hs c fs st Q } := pSt_tryE
theorem w_appO {i : Nat} {r : RV} : pAppO i r st Q.nx = @vN (appO2 true st.env[i]? i r st) Q := by
  unfold pAppO appO2
  cases st.env[i]? with
  | none => rfl
  | some o =>
    cases o with
    | none => rfl
    | some sl =>
      cases sl with
      | val w => rfl
      | own k ws =>
        cases k with
        | lst => show (_ ∧ _) = _; cases h : szOk (ws.length + 1) <;> simp [vN, h]
        | _ => rfl
theorem w_appR {i : Nat} {r : RV} : pAppR i r st Q.nx = @vN (appO2 false st.env[i]? i r st) Q := by
  unfold pAppR appO2
  cases st.env[i]? with
  | none => rfl
  | some o =>
    cases o with
    | none => rfl
    | some sl =>
      cases sl with
      | own k ws => cases k <;> rfl
      | val w =>
        cases w with
        | ref m =>
          simp only
          cases st.sto[m]? with
          | none => rfl
          | some so =>
            obtain ⟨k, ws⟩ := so
            cases k with
            | lst => show (_ ∧ _) = _; cases h : szOk (ws.length + 1) <;> simp [vN, h]
            | _ => rfl
        | _ => rfl
def hrO (h : Hd) (fs : Flds) (st : ST) : Option ST := (hAsg fs h.asg (offE h.oi st.env)).map fun env => ⟨offE h.oi env, st.sto⟩
theorem vHr_nil {c : Nat} {fs : Flds} : @vHr [] c fs st Q = Q.ex c fs st := rfl
theorem vHr_cons {h : Hd} {r : List Hd} {c : Nat} {fs : Flds} : @vHr (h :: r) c fs st Q = @vIf (h.cs.contains c) ⟨@vGd (inE h.oi st.env) ⟨@vN (hrO h fs st) Q⟩⟩ ⟨@vHr r c fs st Q⟩ := by
  unfold vHr vIf vGd vN hrO
  simp only [hRun]
  cases h.cs.contains c with
  | false => rfl
  | true =>
    cases inE h.oi st.env with
    | false => simp [pS]
    | true =>
      simp only [if_true]
      cases hAsg fs h.asg (offE h.oi st.env) <;> simp [pS]
theorem vS_app {i : Nat} {e : IE} : @vS C (.app i e) st Q = @vGd (isAppL st.env[i]? st.sto) ⟨@vE C e st ⟨fun r st' => @vN (appO2 (isOwnL st.env[i]?) st'.env[i]? i r st') Q⟩ ⟨Q.ex⟩⟩ := by
  unfold vS vE
  rw [pSt_app]
  simp only [w_appO, w_appR]
  unfold isAppL isOwnL
  cases st.env[i]? with
  | none => simp [vGd]
  | some o =>
    cases o with
    | none => simp [vGd]
    | some sl =>
      cases sl with
      | own k ws => cases k <;> simp [vGd]
      | val w =>
        cases w with
        | ref m =>
          simp only
          cases st.sto[m]? with
          | none => simp [vGd]
          | some so =>
            obtain ⟨k, ws⟩ := so
            cases k <;> simp [vGd]
        | _ => simp [vGd]
/-! ### calls, loops -/
theorem vK_enter {T : FT} {k f : Nat} {fn : FnI} {ws : List W} {S : List SO} {q : Cc} {x : Xc} (h : T.lookup f = some fn) (hl : (ws.length == fn.np) = true)
    (g : @vSs (callN T k) fn.body ⟨entryE fn.ns ws, S⟩ (Qs.fin q x)) : @vK (callN T (k + 1) f ws S) q x := pC_enter h hl g
theorem vFor_inv {β : Type} {enc : β → W} {g : TgI} {b : IB} {all : List β} (I : List β → List β → ST → Prop) (h0 : I [] all st)
    (hs : ∀ pre y post st, all = pre ++ y :: post → I pre (y :: post) st → @vN (setTO g (enc y) st) ⟨fun st => @vSs C b st ⟨fun st => @wInv st ⟨I (pre ++ [y]) post⟩, Q.rt, Q.nx, fun st => @wInv st ⟨I (pre ++ [y]) post⟩, Q.ex⟩, fun _ _ => False, fun _ => False, fun _ => False, fun _ _ _ => False⟩) (hd : ∀ st, I all [] st → Q.nx st) : @vFor C g b (all.map enc) st Q := by
  refine pFor_inv I h0 (fun pre y post st e h => ?_) hd
  have := hs pre y post st e h
  unfold setTO at this
  cases hg : setT g (enc y) st.env with
  | none => rw [hg] at this; exact this
  | some env => rw [hg] at this; exact this
theorem vWhl_inv {c : IE} {b : IB} (I : Nat → ST → Prop) (n : Nat) (hn : n < FU) (h0 : I n st) (hs : ∀ n st, I n st → @vT C c st ⟨fun k st => @vIf k ⟨@vSs C b st ⟨fun st => @wInv st ⟨fun st => ∃ m, m < n ∧ I m st⟩, Q.rt, Q.nx, fun st => @wInv st ⟨fun st => ∃ m, m < n ∧ I m st⟩, Q.ex⟩⟩ ⟨Q.nx st⟩⟩ ⟨Q.ex⟩) :
    @vWhl C c b st Q := pWhl_inv I n hn h0 hs
theorem vCmp_map {β : Type} {f : β → W} {all : List β} {elt : IE} {i : Nat} {cond : IE} {has : Bool} {env : Env'} {S : List SO} {q : Ct RV} (g : β → Option W) (hi : i < env.length)
    (h : ∀ y ∈ all, @vIf has ⟨@vT C cond ⟨env.set i (some (.val (f y))), S⟩ ⟨fun b st => st = ⟨env.set i (some (.val (f y))), S⟩ ∧ @vIf b ⟨@vE C elt ⟨env.set i (some (.val (f y))), S⟩ ⟨fun r st => st = ⟨env.set i (some (.val (f y))), S⟩ ∧ g y = some r.w⟩ ⟨fun _ _ _ => False⟩⟩ ⟨g y = none⟩⟩ ⟨fun _ _ _ => False⟩⟩
      ⟨@vE C elt ⟨env.set i (some (.val (f y))), S⟩ ⟨fun r st => st = ⟨env.set i (some (.val (f y))), S⟩ ∧ g y = some r.w⟩ ⟨fun _ _ _ => False⟩⟩)
    (hq : q.k (.f .lst (all.filterMap g)) ⟨env.set i (keepV env[i]?), S⟩) : @vCmp C elt (.nm i) cond has (all.map f) ⟨env, S⟩ q := pCmp_map g hi h hq
theorem vK_mono {r : RC} {q q' : Cc} {x x' : Xc} (h : @vK r q x) (h1 : ∀ r S, q.k r S → q'.k r S) (h2 : ∀ c fs S, x.x c fs S → x'.x c fs S) : @vK r q' x' := pC_mono h h1 h2
end
/-! form by form -/
section
variable {C : CT} {st : ST} {x : Xk} {Q : Qs}
theorem vO_non  {q : Ct OV} : @vO C .non st q x = @vE C .non st ⟨fun r st => q.k (.v r.w) st⟩ x := vO_other rfl
theorem vT_non  {q : Ct Bool} : @vT C .non st q x = @vE C .non st ⟨fun r st => @vOp _ (truth (vw st.sto r.w)) st q⟩ x := vT_plain rfl rfl
theorem vS_ret_non  : @vS C (.ret .non) st Q = @vE C .non st ⟨fun r st => Q.rt r st.sto⟩ ⟨Q.ex⟩ := vS_ret rfl
theorem vO_bl {b : Bool} {q : Ct OV} : @vO C (.bl b) st q x = @vE C (.bl b) st ⟨fun r st => q.k (.v r.w) st⟩ x := vO_other rfl
theorem vT_bl {b : Bool} {q : Ct Bool} : @vT C (.bl b) st q x = @vE C (.bl b) st ⟨fun r st => @vOp _ (truth (vw st.sto r.w)) st q⟩ x := vT_plain rfl rfl
theorem vS_ret_bl {b : Bool} : @vS C (.ret (.bl b)) st Q = @vE C (.bl b) st ⟨fun r st => Q.rt r st.sto⟩ ⟨Q.ex⟩ := vS_ret rfl
theorem vO_int {i : Int} {q : Ct OV} : @vO C (.int i) st q x = @vE C (.int i) st ⟨fun r st => q.k (.v r.w) st⟩ x := vO_other rfl
theorem vT_int {i : Int} {q : Ct Bool} : @vT C (.int i) st q x = @vE C (.int i) st ⟨fun r st => @vOp _ (truth (vw st.sto r.w)) st q⟩ x := vT_plain rfl rfl
theorem vS_ret_int {i : Int} : @vS C (.ret (.int i)) st Q = @vE C (.int i) st ⟨fun r st => Q.rt r st.sto⟩ ⟨Q.ex⟩ := vS_ret rfl
theorem vO_str {s : Str} {q : Ct OV} : @vO C (.str s) st q x = @vE C (.str s) st ⟨fun r st => q.k (.v r.w) st⟩ x := vO_other rfl
theorem vT_str {s : Str} {q : Ct Bool} : @vT C (.str s) st q x = @vE C (.str s) st ⟨fun r st => @vOp _ (truth (vw st.sto r.w)) st q⟩ x := vT_plain rfl rfl
theorem vS_ret_str {s : Str} : @vS C (.ret (.str s)) st Q = @vE C (.str s) st ⟨fun r st => Q.rt r st.sto⟩ ⟨Q.ex⟩ := vS_ret rfl
theorem vO_tup {a : IA} {q : Ct OV} : @vO C (.tup a) st q x = @vE C (.tup a) st ⟨fun r st => q.k (.v r.w) st⟩ x := vO_other rfl
theorem vT_tup {a : IA} {q : Ct Bool} : @vT C (.tup a) st q x = @vE C (.tup a) st ⟨fun r st => @vOp _ (truth (vw st.sto r.w)) st q⟩ x := vT_plain rfl rfl
theorem vS_ret_tup {a : IA} : @vS C (.ret (.tup a)) st Q = @vE C (.tup a) st ⟨fun r st => Q.rt r st.sto⟩ ⟨Q.ex⟩ := vS_ret rfl
theorem vO_lst {a : IA} {q : Ct OV} : @vO C (.lst a) st q x = @vE C (.lst a) st ⟨fun r st => q.k (.v r.w) st⟩ x := vO_other rfl
theorem vT_lst {a : IA} {q : Ct Bool} : @vT C (.lst a) st q x = @vE C (.lst a) st ⟨fun r st => @vOp _ (truth (vw st.sto r.w)) st q⟩ x := vT_plain rfl rfl
theorem vS_ret_lst {a : IA} : @vS C (.ret (.lst a)) st Q = @vE C (.lst a) st ⟨fun r st => Q.rt r st.sto⟩ ⟨Q.ex⟩ := vS_ret rfl
theorem vO_bin {o : Op2} {a b : IE} {q : Ct OV} : @vO C (.bin o a b) st q x = @vE C (.bin o a b) st ⟨fun r st => q.k (.v r.w) st⟩ x := vO_other rfl
theorem vT_bin {o : Op2} {a b : IE} {q : Ct Bool} : @vT C (.bin o a b) st q x = @vE C (.bin o a b) st ⟨fun r st => @vOp _ (truth (vw st.sto r.w)) st q⟩ x := vT_plain rfl rfl
theorem vS_ret_bin {o : Op2} {a b : IE} : @vS C (.ret (.bin o a b)) st Q = @vE C (.bin o a b) st ⟨fun r st => Q.rt r st.sto⟩ ⟨Q.ex⟩ := vS_ret rfl
theorem vO_cmp {o : Cp} {a b : IE} {q : Ct OV} : @vO C (.cmp o a b) st q x = @vE C (.cmp o a b) st ⟨fun r st => q.k (.v r.w) st⟩ x := vO_other rfl
theorem vT_cmp {o : Cp} {a b : IE} {q : Ct Bool} : @vT C (.cmp o a b) st q x = @vE C (.cmp o a b) st ⟨fun r st => @vOp _ (truth (vw st.sto r.w)) st q⟩ x := vT_plain rfl rfl
theorem vS_ret_cmp {o : Cp} {a b : IE} : @vS C (.ret (.cmp o a b)) st Q = @vE C (.cmp o a b) st ⟨fun r st => Q.rt r st.sto⟩ ⟨Q.ex⟩ := vS_ret rfl
theorem vO_andE {a b : IE} {q : Ct OV} : @vO C (.andE a b) st q x = @vE C (.andE a b) st ⟨fun r st => q.k (.v r.w) st⟩ x := vO_other rfl
theorem vS_ret_andE {a b : IE} : @vS C (.ret (.andE a b)) st Q = @vE C (.andE a b) st ⟨fun r st => Q.rt r st.sto⟩ ⟨Q.ex⟩ := vS_ret rfl
theorem vO_orE {a b : IE} {q : Ct OV} : @vO C (.orE a b) st q x = @vE C (.orE a b) st ⟨fun r st => q.k (.v r.w) st⟩ x := vO_other rfl
theorem vS_ret_orE {a b : IE} : @vS C (.ret (.orE a b)) st Q = @vE C (.orE a b) st ⟨fun r st => Q.rt r st.sto⟩ ⟨Q.ex⟩ := vS_ret rfl
theorem vO_notE {a : IE} {q : Ct OV} : @vO C (.notE a) st q x = @vE C (.notE a) st ⟨fun r st => q.k (.v r.w) st⟩ x := vO_other rfl
theorem vS_ret_notE {a : IE} : @vS C (.ret (.notE a)) st Q = @vE C (.notE a) st ⟨fun r st => Q.rt r st.sto⟩ ⟨Q.ex⟩ := vS_ret rfl
theorem vO_ifE {c a b : IE} {q : Ct OV} : @vO C (.ifE c a b) st q x = @vE C (.ifE c a b) st ⟨fun r st => q.k (.v r.w) st⟩ x := vO_other rfl
theorem vT_ifE {c a b : IE} {q : Ct Bool} : @vT C (.ifE c a b) st q x = @vE C (.ifE c a b) st ⟨fun r st => @vOp _ (truth (vw st.sto r.w)) st q⟩ x := vT_plain rfl rfl
theorem vS_ret_ifE {c a b : IE} : @vS C (.ret (.ifE c a b)) st Q = @vE C (.ifE c a b) st ⟨fun r st => Q.rt r st.sto⟩ ⟨Q.ex⟩ := vS_ret rfl
theorem vO_idx {a b : IE} {q : Ct OV} : @vO C (.idx a b) st q x = @vE C (.idx a b) st ⟨fun r st => q.k (.v r.w) st⟩ x := vO_other rfl
theorem vT_idx {a b : IE} {q : Ct Bool} : @vT C (.idx a b) st q x = @vE C (.idx a b) st ⟨fun r st => @vOp _ (truth (vw st.sto r.w)) st q⟩ x := vT_plain rfl rfl
theorem vS_ret_idx {a b : IE} : @vS C (.ret (.idx a b)) st Q = @vE C (.idx a b) st ⟨fun r st => Q.rt r st.sto⟩ ⟨Q.ex⟩ := vS_ret rfl
theorem vO_sfrom {a b : IE} {q : Ct OV} : @vO C (.sfrom a b) st q x = @vE C (.sfrom a b) st ⟨fun r st => q.k (.v r.w) st⟩ x := vO_other rfl
theorem vT_sfrom {a b : IE} {q : Ct Bool} : @vT C (.sfrom a b) st q x = @vE C (.sfrom a b) st ⟨fun r st => @vOp _ (truth (vw st.sto r.w)) st q⟩ x := vT_plain rfl rfl
theorem vS_ret_sfrom {a b : IE} : @vS C (.ret (.sfrom a b)) st Q = @vE C (.sfrom a b) st ⟨fun r st => Q.rt r st.sto⟩ ⟨Q.ex⟩ := vS_ret rfl
theorem vO_upto {a b : IE} {q : Ct OV} : @vO C (.upto a b) st q x = @vE C (.upto a b) st ⟨fun r st => q.k (.v r.w) st⟩ x := vO_other rfl
theorem vT_upto {a b : IE} {q : Ct Bool} : @vT C (.upto a b) st q x = @vE C (.upto a b) st ⟨fun r st => @vOp _ (truth (vw st.sto r.w)) st q⟩ x := vT_plain rfl rfl
theorem vS_ret_upto {a b : IE} : @vS C (.ret (.upto a b)) st Q = @vE C (.upto a b) st ⟨fun r st => Q.rt r st.sto⟩ ⟨Q.ex⟩ := vS_ret rfl
theorem vO_cut {a b c : IE} {q : Ct OV} : @vO C (.cut a b c) st q x = @vE C (.cut a b c) st ⟨fun r st => q.k (.v r.w) st⟩ x := vO_other rfl
theorem vT_cut {a b c : IE} {q : Ct Bool} : @vT C (.cut a b c) st q x = @vE C (.cut a b c) st ⟨fun r st => @vOp _ (truth (vw st.sto r.w)) st q⟩ x := vT_plain rfl rfl
theorem vS_ret_cut {a b c : IE} : @vS C (.ret (.cut a b c)) st Q = @vE C (.cut a b c) st ⟨fun r st => Q.rt r st.sto⟩ ⟨Q.ex⟩ := vS_ret rfl
theorem vO_rev {a : IE} {q : Ct OV} : @vO C (.rev a) st q x = @vE C (.rev a) st ⟨fun r st => q.k (.v r.w) st⟩ x := vO_other rfl
theorem vT_rev {a : IE} {q : Ct Bool} : @vT C (.rev a) st q x = @vE C (.rev a) st ⟨fun r st => @vOp _ (truth (vw st.sto r.w)) st q⟩ x := vT_plain rfl rfl
theorem vS_ret_rev {a : IE} : @vS C (.ret (.rev a)) st Q = @vE C (.rev a) st ⟨fun r st => Q.rt r st.sto⟩ ⟨Q.ex⟩ := vS_ret rfl
theorem vO_call {f : Nat} {a : IA} {q : Ct OV} : @vO C (.call f a) st q x = @vE C (.call f a) st ⟨fun r st => q.k (.v r.w) st⟩ x := vO_other rfl
theorem vT_call {f : Nat} {a : IA} {q : Ct Bool} : @vT C (.call f a) st q x = @vE C (.call f a) st ⟨fun r st => @vOp _ (truth (vw st.sto r.w)) st q⟩ x := vT_plain rfl rfl
theorem vS_ret_call {f : Nat} {a : IA} : @vS C (.ret (.call f a)) st Q = @vE C (.call f a) st ⟨fun r st => Q.rt r st.sto⟩ ⟨Q.ex⟩ := vS_ret rfl
theorem vO_blt {f : Bf} {a : IA} {q : Ct OV} : @vO C (.blt f a) st q x = @vE C (.blt f a) st ⟨fun r st => q.k (.v r.w) st⟩ x := vO_other rfl
theorem vT_blt {f : Bf} {a : IA} {q : Ct Bool} : @vT C (.blt f a) st q x = @vE C (.blt f a) st ⟨fun r st => @vOp _ (truth (vw st.sto r.w)) st q⟩ x := vT_plain rfl rfl
theorem vS_ret_blt {f : Bf} {a : IA} : @vS C (.ret (.blt f a)) st Q = @vE C (.blt f a) st ⟨fun r st => Q.rt r st.sto⟩ ⟨Q.ex⟩ := vS_ret rfl
theorem vO_pop {i : Nat} {e : IE} {q : Ct OV} : @vO C (.pop i e) st q x = @vE C (.pop i e) st ⟨fun r st => q.k (.v r.w) st⟩ x := vO_other rfl
theorem vT_pop {i : Nat} {e : IE} {q : Ct Bool} : @vT C (.pop i e) st q x = @vE C (.pop i e) st ⟨fun r st => @vOp _ (truth (vw st.sto r.w)) st q⟩ x := vT_plain rfl rfl
theorem vS_ret_pop {i : Nat} {e : IE} : @vS C (.ret (.pop i e)) st Q = @vE C (.pop i e) st ⟨fun r st => Q.rt r st.sto⟩ ⟨Q.ex⟩ := vS_ret rfl
theorem vO_setLen {e : IE} {q : Ct OV} : @vO C (.setLen e) st q x = @vE C (.setLen e) st ⟨fun r st => q.k (.v r.w) st⟩ x := vO_other rfl
theorem vT_setLen {e : IE} {q : Ct Bool} : @vT C (.setLen e) st q x = @vE C (.setLen e) st ⟨fun r st => @vOp _ (truth (vw st.sto r.w)) st q⟩ x := vT_plain rfl rfl
theorem vS_ret_setLen {e : IE} : @vS C (.ret (.setLen e)) st Q = @vE C (.setLen e) st ⟨fun r st => Q.rt r st.sto⟩ ⟨Q.ex⟩ := vS_ret rfl
theorem vO_isT {e : IE} {t : Tn} {q : Ct OV} : @vO C (.isT e t) st q x = @vE C (.isT e t) st ⟨fun r st => q.k (.v r.w) st⟩ x := vO_other rfl
theorem vT_isT {e : IE} {t : Tn} {q : Ct Bool} : @vT C (.isT e t) st q x = @vE C (.isT e t) st ⟨fun r st => @vOp _ (truth (vw st.sto r.w)) st q⟩ x := vT_plain rfl rfl
theorem vS_ret_isT {e : IE} {t : Tn} : @vS C (.ret (.isT e t)) st Q = @vE C (.isT e t) st ⟨fun r st => Q.rt r st.sto⟩ ⟨Q.ex⟩ := vS_ret rfl
theorem vO_comp {elt : IE} {g : TgI} {src : SI} {cond : IE} {has : Bool} {q : Ct OV} : @vO C (.comp elt g src cond has) st q x = @vE C (.comp elt g src cond has) st ⟨fun r st => q.k (.v r.w) st⟩ x := vO_other rfl
theorem vT_comp {elt : IE} {g : TgI} {src : SI} {cond : IE} {has : Bool} {q : Ct Bool} : @vT C (.comp elt g src cond has) st q x = @vE C (.comp elt g src cond has) st ⟨fun r st => @vOp _ (truth (vw st.sto r.w)) st q⟩ x := vT_plain rfl rfl
theorem vS_ret_comp {elt : IE} {g : TgI} {src : SI} {cond : IE} {has : Bool} : @vS C (.ret (.comp elt g src cond has)) st Q = @vE C (.comp elt g src cond has) st ⟨fun r st => Q.rt r st.sto⟩ ⟨Q.ex⟩ := vS_ret rfl
theorem vO_nref {e : IE} {q : Ct OV} : @vO C (.nref e) st q x = @vE C (.nref e) st ⟨fun r st => q.k (.v r.w) st⟩ x := vO_other rfl
theorem vT_nref {e : IE} {q : Ct Bool} : @vT C (.nref e) st q x = @vE C (.nref e) st ⟨fun r st => @vOp _ (truth (vw st.sto r.w)) st q⟩ x := vT_plain rfl rfl
theorem vS_ret_nref {e : IE} : @vS C (.ret (.nref e)) st Q = @vE C (.nref e) st ⟨fun r st => Q.rt r st.sto⟩ ⟨Q.ex⟩ := vS_ret rfl
theorem vO_idxOf {a b : IE} {q : Ct OV} : @vO C (.idxOf a b) st q x = @vE C (.idxOf a b) st ⟨fun r st => q.k (.v r.w) st⟩ x := vO_other rfl
theorem vT_idxOf {a b : IE} {q : Ct Bool} : @vT C (.idxOf a b) st q x = @vE C (.idxOf a b) st ⟨fun r st => @vOp _ (truth (vw st.sto r.w)) st q⟩ x := vT_plain rfl rfl
theorem vS_ret_idxOf {a b : IE} : @vS C (.ret (.idxOf a b)) st Q = @vE C (.idxOf a b) st ⟨fun r st => Q.rt r st.sto⟩ ⟨Q.ex⟩ := vS_ret rfl
theorem vT_var {i : Nat} {q : Ct Bool} : @vT C (.var i) st q x = @vO C (.var i) st ⟨fun o st => @vOp _ (pvB o st) st q⟩ x := vT_other rfl
end
theorem vK_ok {r : RC} {p : RV → Prop} (h : @vK r ⟨fun r _ => p r⟩ ⟨fun _ _ _ => False⟩) : ∃ r' S, r = .ok r' S ∧ p r' := by
  cases r with
  | ok r' S => exact ⟨r', S, rfl, h⟩
  | exn => exact h.elim
  | bad => exact h.elim
/-! the same, closed: neither the simplifier nor the kernel may look inside -/
structure wOs (C : CT) (a : IA) (st : ST) [q : Ct (List OV)] [x : Xk] : Prop where
  h : vOs C a st
structure wSs (C : CT) (s : IB) (st : ST) [Q : Qs] : Prop where
  h : vSs C s st
structure wFor (C : CT) (g : TgI) (b : IB) (xs : List W) (st : ST) [Q : Qs] : Prop where
  h : vFor C g b xs st
structure wWhl (C : CT) (c : IE) (b : IB) (st : ST) [Q : Qs] : Prop where
  h : vWhl C c b st
structure wCmp (C : CT) (elt : IE) (g : TgI) (cond : IE) (has : Bool) (xs : List W) (st : ST) [q : Ct RV] : Prop where
  h : vCmp C elt g cond has xs st
structure wE (C : CT) (e : IE) (st : ST) [q : Ct RV] [x : Xk] : Prop where
  h : vE C e st
structure wT (C : CT) (e : IE) (st : ST) [q : Ct Bool] [x : Xk] : Prop where
  h : vT C e st
structure wO (C : CT) (e : IE) (st : ST) [q : Ct OV] [x : Xk] : Prop where
  h : vO C e st
structure wA (C : CT) (a : IA) (st : ST) [q : Ct (List W)] [x : Xk] : Prop where
  h : vA C a st
structure wI (C : CT) (a : SI) (st : ST) [q : Ct (List W)] [x : Xk] : Prop where
  h : vI C a st
structure wS (C : CT) (s : IS) (st : ST) [Q : Qs] : Prop where
  h : vS C s st
structure wK (r : RC) [q : Cc] [x : Xc] : Prop where
  h : vK r
structure wOp {α : Type} (o : Option α) (st : ST) [q : Ct α] : Prop where
  h : vOp o st
structure wOq {α : Type} (o : Option (α × ST)) [q : Ct α] : Prop where
  h : vOq o
structure wN (o : Option ST) [Q : Qs] : Prop where
  h : vN o
structure wRt (o : Option RV) (S : List SO) [Q : Qs] : Prop where
  h : vRt o S
structure wIf (b : Bool) [A : Cq] [B : Cq] : Prop where
  h : @vIf b A B
structure wGd (b : Bool) [A : Cq] : Prop where
  h : vGd b
structure wHr (hs : List Hd) (c : Nat) (fs : Flds) (st : ST) [Q : Qs] : Prop where
  h : vHr hs c fs st
theorem wOs_fn : @wOs = @vOs := by
  repeat (first | (apply funext; intro _))
  exact propext ⟨fun h => h.h, fun h => ⟨h⟩⟩
theorem wSs_fn : @wSs = @vSs := by
  repeat (first | (apply funext; intro _))
  exact propext ⟨fun h => h.h, fun h => ⟨h⟩⟩
theorem wFor_fn : @wFor = @vFor := by
  repeat (first | (apply funext; intro _))
  exact propext ⟨fun h => h.h, fun h => ⟨h⟩⟩
theorem wWhl_fn : @wWhl = @vWhl := by
  repeat (first | (apply funext; intro _))
  exact propext ⟨fun h => h.h, fun h => ⟨h⟩⟩
theorem wCmp_fn : @wCmp = @vCmp := by
  repeat (first | (apply funext; intro _))
  exact propext ⟨fun h => h.h, fun h => ⟨h⟩⟩
theorem wE_fn : @wE = @vE := by
  repeat (first | (apply funext; intro _))
  exact propext ⟨fun h => h.h, fun h => ⟨h⟩⟩
theorem wT_fn : @wT = @vT := by
  repeat (first | (apply funext; intro _))
  exact propext ⟨fun h => h.h, fun h => ⟨h⟩⟩
theorem wO_fn : @wO = @vO := by
  repeat (first | (apply funext; intro _))
  exact propext ⟨fun h => h.h, fun h => ⟨h⟩⟩
theorem wA_fn : @wA = @vA := by
  repeat (first | (apply funext; intro _))
  exact propext ⟨fun h => h.h, fun h => ⟨h⟩⟩
theorem wI_fn : @wI = @vI := by
  repeat (first | (apply funext; intro _))
  exact propext ⟨fun h => h.h, fun h => ⟨h⟩⟩
theorem wS_fn : @wS = @vS := by
  repeat (first | (apply funext; intro _))
  exact propext ⟨fun h => h.h, fun h => ⟨h⟩⟩
theorem wK_fn : @wK = @vK := by
  repeat (first | (apply funext; intro _))
  exact propext ⟨fun h => h.h, fun h => ⟨h⟩⟩
theorem wOp_fn : @wOp = @vOp := by
  repeat (first | (apply funext; intro _))
  exact propext ⟨fun h => h.h, fun h => ⟨h⟩⟩
theorem wOq_fn : @wOq = @vOq := by
  repeat (first | (apply funext; intro _))
  exact propext ⟨fun h => h.h, fun h => ⟨h⟩⟩
theorem wN_fn : @wN = @vN := by
  repeat (first | (apply funext; intro _))
  exact propext ⟨fun h => h.h, fun h => ⟨h⟩⟩
theorem wRt_fn : @wRt = @vRt := by
  repeat (first | (apply funext; intro _))
  exact propext ⟨fun h => h.h, fun h => ⟨h⟩⟩
theorem wIf_fn : @wIf = @vIf := by
  funext b A B
  exact propext ⟨fun h => @wIf.h b A B h, fun h => @wIf.mk b A B h⟩
theorem wGd_fn : @wGd = @vGd := by
  repeat (first | (apply funext; intro _))
  exact propext ⟨fun h => h.h, fun h => ⟨h⟩⟩
theorem wHr_fn : @wHr = @vHr := by
  repeat (first | (apply funext; intro _))
  exact propext ⟨fun h => h.h, fun h => ⟨h⟩⟩
theorem wOp_some {α : Type} {r : α} {st : ST} {q : Ct α} : @wOp α (some r) st q = q.k r st := by
  try rw [wOs_fn]
  try rw [wSs_fn]
  try rw [wFor_fn]
  try rw [wWhl_fn]
  try rw [wCmp_fn]
  try rw [wE_fn]
  try rw [wT_fn]
  try rw [wO_fn]
  try rw [wA_fn]
  try rw [wI_fn]
  try rw [wS_fn]
  try rw [wK_fn]
  try rw [wOp_fn]
  try rw [wOq_fn]
  try rw [wN_fn]
  try rw [wRt_fn]
  try rw [wIf_fn]
  try rw [wGd_fn]
  try rw [wHr_fn]
  exact vOp_some
theorem wOp_none {α : Type} {st : ST} {q : Ct α} : @wOp α none st q = False := by
  try rw [wOs_fn]
  try rw [wSs_fn]
  try rw [wFor_fn]
  try rw [wWhl_fn]
  try rw [wCmp_fn]
  try rw [wE_fn]
  try rw [wT_fn]
  try rw [wO_fn]
  try rw [wA_fn]
  try rw [wI_fn]
  try rw [wS_fn]
  try rw [wK_fn]
  try rw [wOp_fn]
  try rw [wOq_fn]
  try rw [wN_fn]
  try rw [wRt_fn]
  try rw [wIf_fn]
  try rw [wGd_fn]
  try rw [wHr_fn]
  exact vOp_none
theorem wOq_some {α : Type} {r : α} {st : ST} {q : Ct α} : @wOq α (some (r, st)) q = q.k r st := by
  try rw [wOs_fn]
  try rw [wSs_fn]
  try rw [wFor_fn]
  try rw [wWhl_fn]
  try rw [wCmp_fn]
  try rw [wE_fn]
  try rw [wT_fn]
  try rw [wO_fn]
  try rw [wA_fn]
  try rw [wI_fn]
  try rw [wS_fn]
  try rw [wK_fn]
  try rw [wOp_fn]
  try rw [wOq_fn]
  try rw [wN_fn]
  try rw [wRt_fn]
  try rw [wIf_fn]
  try rw [wGd_fn]
  try rw [wHr_fn]
  exact vOq_some
theorem wOq_none {α : Type} {q : Ct α} : @wOq α none q = False := by
  try rw [wOs_fn]
  try rw [wSs_fn]
  try rw [wFor_fn]
  try rw [wWhl_fn]
  try rw [wCmp_fn]
  try rw [wE_fn]
  try rw [wT_fn]
  try rw [wO_fn]
  try rw [wA_fn]
  try rw [wI_fn]
  try rw [wS_fn]
  try rw [wK_fn]
  try rw [wOp_fn]
  try rw [wOq_fn]
  try rw [wN_fn]
  try rw [wRt_fn]
  try rw [wIf_fn]
  try rw [wGd_fn]
  try rw [wHr_fn]
  exact vOq_none
theorem wN_some {st : ST} {Q : Qs} : @wN (some st) Q = Q.nx st := by
  try rw [wOs_fn]
  try rw [wSs_fn]
  try rw [wFor_fn]
  try rw [wWhl_fn]
  try rw [wCmp_fn]
  try rw [wE_fn]
  try rw [wT_fn]
  try rw [wO_fn]
  try rw [wA_fn]
  try rw [wI_fn]
  try rw [wS_fn]
  try rw [wK_fn]
  try rw [wOp_fn]
  try rw [wOq_fn]
  try rw [wN_fn]
  try rw [wRt_fn]
  try rw [wIf_fn]
  try rw [wGd_fn]
  try rw [wHr_fn]
  exact vN_some
theorem wN_none {Q : Qs} : @wN none Q = False := by
  try rw [wOs_fn]
  try rw [wSs_fn]
  try rw [wFor_fn]
  try rw [wWhl_fn]
  try rw [wCmp_fn]
  try rw [wE_fn]
  try rw [wT_fn]
  try rw [wO_fn]
  try rw [wA_fn]
  try rw [wI_fn]
  try rw [wS_fn]
  try rw [wK_fn]
  try rw [wOp_fn]
  try rw [wOq_fn]
  try rw [wN_fn]
  try rw [wRt_fn]
  try rw [wIf_fn]
  try rw [wGd_fn]
  try rw [wHr_fn]
  exact vN_none
theorem wRt_some {r : RV} {S : List SO} {Q : Qs} : @wRt (some r) S Q = Q.rt r S := by
  try rw [wOs_fn]
  try rw [wSs_fn]
  try rw [wFor_fn]
  try rw [wWhl_fn]
  try rw [wCmp_fn]
  try rw [wE_fn]
  try rw [wT_fn]
  try rw [wO_fn]
  try rw [wA_fn]
  try rw [wI_fn]
  try rw [wS_fn]
  try rw [wK_fn]
  try rw [wOp_fn]
  try rw [wOq_fn]
  try rw [wN_fn]
  try rw [wRt_fn]
  try rw [wIf_fn]
  try rw [wGd_fn]
  try rw [wHr_fn]
  exact vRt_some
theorem wRt_none {S : List SO} {Q : Qs} : @wRt none S Q = False := by
  try rw [wOs_fn]
  try rw [wSs_fn]
  try rw [wFor_fn]
  try rw [wWhl_fn]
  try rw [wCmp_fn]
  try rw [wE_fn]
  try rw [wT_fn]
  try rw [wO_fn]
  try rw [wA_fn]
  try rw [wI_fn]
  try rw [wS_fn]
  try rw [wK_fn]
  try rw [wOp_fn]
  try rw [wOq_fn]
  try rw [wN_fn]
  try rw [wRt_fn]
  try rw [wIf_fn]
  try rw [wGd_fn]
  try rw [wHr_fn]
  exact vRt_none
theorem wIf_true {A B : Cq} : @wIf true A B = A.p := by
  try rw [wOs_fn]
  try rw [wSs_fn]
  try rw [wFor_fn]
  try rw [wWhl_fn]
  try rw [wCmp_fn]
  try rw [wE_fn]
  try rw [wT_fn]
  try rw [wO_fn]
  try rw [wA_fn]
  try rw [wI_fn]
  try rw [wS_fn]
  try rw [wK_fn]
  try rw [wOp_fn]
  try rw [wOq_fn]
  try rw [wN_fn]
  try rw [wRt_fn]
  try rw [wIf_fn]
  try rw [wGd_fn]
  try rw [wHr_fn]
  exact vIf_true
theorem wIf_false {A B : Cq} : @wIf false A B = B.p := by
  try rw [wOs_fn]
  try rw [wSs_fn]
  try rw [wFor_fn]
  try rw [wWhl_fn]
  try rw [wCmp_fn]
  try rw [wE_fn]
  try rw [wT_fn]
  try rw [wO_fn]
  try rw [wA_fn]
  try rw [wI_fn]
  try rw [wS_fn]
  try rw [wK_fn]
  try rw [wOp_fn]
  try rw [wOq_fn]
  try rw [wN_fn]
  try rw [wRt_fn]
  try rw [wIf_fn]
  try rw [wGd_fn]
  try rw [wHr_fn]
  exact vIf_false
theorem wGd_true {A : Cq} : @wGd true A = A.p := by
  try rw [wOs_fn]
  try rw [wSs_fn]
  try rw [wFor_fn]
  try rw [wWhl_fn]
  try rw [wCmp_fn]
  try rw [wE_fn]
  try rw [wT_fn]
  try rw [wO_fn]
  try rw [wA_fn]
  try rw [wI_fn]
  try rw [wS_fn]
  try rw [wK_fn]
  try rw [wOp_fn]
  try rw [wOq_fn]
  try rw [wN_fn]
  try rw [wRt_fn]
  try rw [wIf_fn]
  try rw [wGd_fn]
  try rw [wHr_fn]
  exact vGd_true
theorem wGd_false {A : Cq} : @wGd false A = False := by
  try rw [wOs_fn]
  try rw [wSs_fn]
  try rw [wFor_fn]
  try rw [wWhl_fn]
  try rw [wCmp_fn]
  try rw [wE_fn]
  try rw [wT_fn]
  try rw [wO_fn]
  try rw [wA_fn]
  try rw [wI_fn]
  try rw [wS_fn]
  try rw [wK_fn]
  try rw [wOp_fn]
  try rw [wOq_fn]
  try rw [wN_fn]
  try rw [wRt_fn]
  try rw [wIf_fn]
  try rw [wGd_fn]
  try rw [wHr_fn]
  exact vGd_false
section
variable {C : CT} {st : ST} {x : Xk} {Q : Qs}
section
variable {q : Ct RV}
theorem wE_var {i : Nat} : @wE C (.var i) st q x = @wOq _ (varO st.env[i]? i st) q := by
  try rw [wOs_fn]
  try rw [wSs_fn]
  try rw [wFor_fn]
  try rw [wWhl_fn]
  try rw [wCmp_fn]
  try rw [wE_fn]
  try rw [wT_fn]
  try rw [wO_fn]
  try rw [wA_fn]
  try rw [wI_fn]
  try rw [wS_fn]
  try rw [wK_fn]
  try rw [wOp_fn]
  try rw [wOq_fn]
  try rw [wN_fn]
  try rw [wRt_fn]
  try rw [wIf_fn]
  try rw [wGd_fn]
  try rw [wHr_fn]
  exact vE_var
theorem wE_non : @wE C .non st q x = q.k (.v .non) st := by
  try rw [wOs_fn]
  try rw [wSs_fn]
  try rw [wFor_fn]
  try rw [wWhl_fn]
  try rw [wCmp_fn]
  try rw [wE_fn]
  try rw [wT_fn]
  try rw [wO_fn]
  try rw [wA_fn]
  try rw [wI_fn]
  try rw [wS_fn]
  try rw [wK_fn]
  try rw [wOp_fn]
  try rw [wOq_fn]
  try rw [wN_fn]
  try rw [wRt_fn]
  try rw [wIf_fn]
  try rw [wGd_fn]
  try rw [wHr_fn]
  exact vE_non
theorem wE_bl {b : Bool} : @wE C (.bl b) st q x = q.k (.v (.bl b)) st := by
  try rw [wOs_fn]
  try rw [wSs_fn]
  try rw [wFor_fn]
  try rw [wWhl_fn]
  try rw [wCmp_fn]
  try rw [wE_fn]
  try rw [wT_fn]
  try rw [wO_fn]
  try rw [wA_fn]
  try rw [wI_fn]
  try rw [wS_fn]
  try rw [wK_fn]
  try rw [wOp_fn]
  try rw [wOq_fn]
  try rw [wN_fn]
  try rw [wRt_fn]
  try rw [wIf_fn]
  try rw [wGd_fn]
  try rw [wHr_fn]
  exact vE_bl
theorem wE_int {i : Int} : @wE C (.int i) st q x = q.k (.v (.int i)) st := by
  try rw [wOs_fn]
  try rw [wSs_fn]
  try rw [wFor_fn]
  try rw [wWhl_fn]
  try rw [wCmp_fn]
  try rw [wE_fn]
  try rw [wT_fn]
  try rw [wO_fn]
  try rw [wA_fn]
  try rw [wI_fn]
  try rw [wS_fn]
  try rw [wK_fn]
  try rw [wOp_fn]
  try rw [wOq_fn]
  try rw [wN_fn]
  try rw [wRt_fn]
  try rw [wIf_fn]
  try rw [wGd_fn]
  try rw [wHr_fn]
  exact vE_int
theorem wE_str {s : Str} : @wE C (.str s) st q x = q.k (.v (.str s)) st := by
  try rw [wOs_fn]
  try rw [wSs_fn]
  try rw [wFor_fn]
  try rw [wWhl_fn]
  try rw [wCmp_fn]
  try rw [wE_fn]
  try rw [wT_fn]
  try rw [wO_fn]
  try rw [wA_fn]
  try rw [wI_fn]
  try rw [wS_fn]
  try rw [wK_fn]
  try rw [wOp_fn]
  try rw [wOq_fn]
  try rw [wN_fn]
  try rw [wRt_fn]
  try rw [wIf_fn]
  try rw [wGd_fn]
  try rw [wHr_fn]
  exact vE_str
theorem wE_tup {a : IA} : @wE C (.tup a) st q x = @wA C a st ⟨fun ws st => @wGd (szOk ws.length) ⟨q.k (.v (.tup ws)) st⟩⟩ x := by
  try rw [wOs_fn]
  try rw [wSs_fn]
  try rw [wFor_fn]
  try rw [wWhl_fn]
  try rw [wCmp_fn]
  try rw [wE_fn]
  try rw [wT_fn]
  try rw [wO_fn]
  try rw [wA_fn]
  try rw [wI_fn]
  try rw [wS_fn]
  try rw [wK_fn]
  try rw [wOp_fn]
  try rw [wOq_fn]
  try rw [wN_fn]
  try rw [wRt_fn]
  try rw [wIf_fn]
  try rw [wGd_fn]
  try rw [wHr_fn]
  exact vE_tup
theorem wE_lst {a : IA} : @wE C (.lst a) st q x = @wA C a st ⟨fun ws st => @wGd (szOk ws.length) ⟨q.k (.f .lst ws) st⟩⟩ x := by
  try rw [wOs_fn]
  try rw [wSs_fn]
  try rw [wFor_fn]
  try rw [wWhl_fn]
  try rw [wCmp_fn]
  try rw [wE_fn]
  try rw [wT_fn]
  try rw [wO_fn]
  try rw [wA_fn]
  try rw [wI_fn]
  try rw [wS_fn]
  try rw [wK_fn]
  try rw [wOp_fn]
  try rw [wOq_fn]
  try rw [wN_fn]
  try rw [wRt_fn]
  try rw [wIf_fn]
  try rw [wGd_fn]
  try rw [wHr_fn]
  exact vE_lst
theorem wE_bin {o : Op2} {a b : IE} : @wE C (.bin o a b) st q x = @wO C a st ⟨fun u st => @wO C b st ⟨fun v st => @wOp _ (pv2 (op2 o) u v st) st q⟩ x⟩ x := by
  try rw [wOs_fn]
  try rw [wSs_fn]
  try rw [wFor_fn]
  try rw [wWhl_fn]
  try rw [wCmp_fn]
  try rw [wE_fn]
  try rw [wT_fn]
  try rw [wO_fn]
  try rw [wA_fn]
  try rw [wI_fn]
  try rw [wS_fn]
  try rw [wK_fn]
  try rw [wOp_fn]
  try rw [wOq_fn]
  try rw [wN_fn]
  try rw [wRt_fn]
  try rw [wIf_fn]
  try rw [wGd_fn]
  try rw [wHr_fn]
  exact vE_bin
theorem wE_cmp {o : Cp} {a b : IE} : @wE C (.cmp o a b) st q x = @wO C a st ⟨fun u st => @wO C b st ⟨fun v st => @wOp _ (pv2 (fun v w => vB (cmp2 o v w)) u v st) st q⟩ x⟩ x := by
  try rw [wOs_fn]
  try rw [wSs_fn]
  try rw [wFor_fn]
  try rw [wWhl_fn]
  try rw [wCmp_fn]
  try rw [wE_fn]
  try rw [wT_fn]
  try rw [wO_fn]
  try rw [wA_fn]
  try rw [wI_fn]
  try rw [wS_fn]
  try rw [wK_fn]
  try rw [wOp_fn]
  try rw [wOq_fn]
  try rw [wN_fn]
  try rw [wRt_fn]
  try rw [wIf_fn]
  try rw [wGd_fn]
  try rw [wHr_fn]
  exact vE_cmp
theorem wE_idx {a b : IE} : @wE C (.idx a b) st q x = @wO C a st ⟨fun u st => @wO C b st ⟨fun v st => @wOp _ (pv2 (fun v w => (idx2 v w).map .v) u v st) st q⟩ x⟩ x := by
  try rw [wOs_fn]
  try rw [wSs_fn]
  try rw [wFor_fn]
  try rw [wWhl_fn]
  try rw [wCmp_fn]
  try rw [wE_fn]
  try rw [wT_fn]
  try rw [wO_fn]
  try rw [wA_fn]
  try rw [wI_fn]
  try rw [wS_fn]
  try rw [wK_fn]
  try rw [wOp_fn]
  try rw [wOq_fn]
  try rw [wN_fn]
  try rw [wRt_fn]
  try rw [wIf_fn]
  try rw [wGd_fn]
  try rw [wHr_fn]
  exact vE_idx
theorem wE_sfrom {a b : IE} : @wE C (.sfrom a b) st q x = @wO C a st ⟨fun u st => @wO C b st ⟨fun v st => @wOp _ (pv2 (fun v w => (toI w).bind fun i => slc2 (some i) none v) u v st) st q⟩ x⟩ x := by
  try rw [wOs_fn]
  try rw [wSs_fn]
  try rw [wFor_fn]
  try rw [wWhl_fn]
  try rw [wCmp_fn]
  try rw [wE_fn]
  try rw [wT_fn]
  try rw [wO_fn]
  try rw [wA_fn]
  try rw [wI_fn]
  try rw [wS_fn]
  try rw [wK_fn]
  try rw [wOp_fn]
  try rw [wOq_fn]
  try rw [wN_fn]
  try rw [wRt_fn]
  try rw [wIf_fn]
  try rw [wGd_fn]
  try rw [wHr_fn]
  exact vE_sfrom
theorem wE_upto {a b : IE} : @wE C (.upto a b) st q x = @wO C a st ⟨fun u st => @wO C b st ⟨fun v st => @wOp _ (pv2 (fun v w => (toI w).bind fun i => slc2 none (some i) v) u v st) st q⟩ x⟩ x := by
  try rw [wOs_fn]
  try rw [wSs_fn]
  try rw [wFor_fn]
  try rw [wWhl_fn]
  try rw [wCmp_fn]
  try rw [wE_fn]
  try rw [wT_fn]
  try rw [wO_fn]
  try rw [wA_fn]
  try rw [wI_fn]
  try rw [wS_fn]
  try rw [wK_fn]
  try rw [wOp_fn]
  try rw [wOq_fn]
  try rw [wN_fn]
  try rw [wRt_fn]
  try rw [wIf_fn]
  try rw [wGd_fn]
  try rw [wHr_fn]
  exact vE_upto
theorem wE_cut {a lo hi : IE} : @wE C (.cut a lo hi) st q x = @wO C a st ⟨fun u st => @wO C lo st ⟨fun v st => @wOp _ (pvI v st) st ⟨fun i st => @wO C hi st ⟨fun w st => @wOp _ (cutO u w i st) st q⟩ x⟩⟩ x⟩ x := by
  try rw [wOs_fn]
  try rw [wSs_fn]
  try rw [wFor_fn]
  try rw [wWhl_fn]
  try rw [wCmp_fn]
  try rw [wE_fn]
  try rw [wT_fn]
  try rw [wO_fn]
  try rw [wA_fn]
  try rw [wI_fn]
  try rw [wS_fn]
  try rw [wK_fn]
  try rw [wOp_fn]
  try rw [wOq_fn]
  try rw [wN_fn]
  try rw [wRt_fn]
  try rw [wIf_fn]
  try rw [wGd_fn]
  try rw [wHr_fn]
  exact vE_cut
theorem wE_rev {a : IE} : @wE C (.rev a) st q x = @wO C a st ⟨fun u st => @wOp _ (pv1 revW u st) st q⟩ x := by
  try rw [wOs_fn]
  try rw [wSs_fn]
  try rw [wFor_fn]
  try rw [wWhl_fn]
  try rw [wCmp_fn]
  try rw [wE_fn]
  try rw [wT_fn]
  try rw [wO_fn]
  try rw [wA_fn]
  try rw [wI_fn]
  try rw [wS_fn]
  try rw [wK_fn]
  try rw [wOp_fn]
  try rw [wOq_fn]
  try rw [wN_fn]
  try rw [wRt_fn]
  try rw [wIf_fn]
  try rw [wGd_fn]
  try rw [wHr_fn]
  exact vE_rev
theorem wE_setLen {a : IE} : @wE C (.setLen a) st q x = @wO C a st ⟨fun u st => @wOp _ (pv1 slenW u st) st q⟩ x := by
  try rw [wOs_fn]
  try rw [wSs_fn]
  try rw [wFor_fn]
  try rw [wWhl_fn]
  try rw [wCmp_fn]
  try rw [wE_fn]
  try rw [wT_fn]
  try rw [wO_fn]
  try rw [wA_fn]
  try rw [wI_fn]
  try rw [wS_fn]
  try rw [wK_fn]
  try rw [wOp_fn]
  try rw [wOq_fn]
  try rw [wN_fn]
  try rw [wRt_fn]
  try rw [wIf_fn]
  try rw [wGd_fn]
  try rw [wHr_fn]
  exact vE_setLen
theorem wE_isT {a : IE} {t : Tn} : @wE C (.isT a t) st q x = @wO C a st ⟨fun u st => @wOp _ (pv1 (fun v => vB (isTn v t)) u st) st q⟩ x := by
  try rw [wOs_fn]
  try rw [wSs_fn]
  try rw [wFor_fn]
  try rw [wWhl_fn]
  try rw [wCmp_fn]
  try rw [wE_fn]
  try rw [wT_fn]
  try rw [wO_fn]
  try rw [wA_fn]
  try rw [wI_fn]
  try rw [wS_fn]
  try rw [wK_fn]
  try rw [wOp_fn]
  try rw [wOq_fn]
  try rw [wN_fn]
  try rw [wRt_fn]
  try rw [wIf_fn]
  try rw [wGd_fn]
  try rw [wHr_fn]
  exact vE_isT
theorem wE_andE {a b : IE} : @wE C (.andE a b) st q x = @wE C a st ⟨fun r st => @wOp _ (rvB r) st ⟨fun b1 st => @wIf b1 ⟨@wE C b st q x⟩ ⟨q.k (.v (.bl false)) st⟩⟩⟩ x := by
  try rw [wOs_fn]
  try rw [wSs_fn]
  try rw [wFor_fn]
  try rw [wWhl_fn]
  try rw [wCmp_fn]
  try rw [wE_fn]
  try rw [wT_fn]
  try rw [wO_fn]
  try rw [wA_fn]
  try rw [wI_fn]
  try rw [wS_fn]
  try rw [wK_fn]
  try rw [wOp_fn]
  try rw [wOq_fn]
  try rw [wN_fn]
  try rw [wRt_fn]
  try rw [wIf_fn]
  try rw [wGd_fn]
  try rw [wHr_fn]
  exact vE_andE
theorem wE_orE {a b : IE} : @wE C (.orE a b) st q x = @wE C a st ⟨fun r st => @wOp _ (rvB r) st ⟨fun b1 st => @wIf b1 ⟨q.k (.v (.bl true)) st⟩ ⟨@wE C b st q x⟩⟩⟩ x := by
  try rw [wOs_fn]
  try rw [wSs_fn]
  try rw [wFor_fn]
  try rw [wWhl_fn]
  try rw [wCmp_fn]
  try rw [wE_fn]
  try rw [wT_fn]
  try rw [wO_fn]
  try rw [wA_fn]
  try rw [wI_fn]
  try rw [wS_fn]
  try rw [wK_fn]
  try rw [wOp_fn]
  try rw [wOq_fn]
  try rw [wN_fn]
  try rw [wRt_fn]
  try rw [wIf_fn]
  try rw [wGd_fn]
  try rw [wHr_fn]
  exact vE_orE
theorem wE_notE {a : IE} : @wE C (.notE a) st q x = @wE C a st ⟨fun r st => @wOp _ (rvB r) st ⟨fun b1 st => q.k (.v (.bl (!b1))) st⟩⟩ x := by
  try rw [wOs_fn]
  try rw [wSs_fn]
  try rw [wFor_fn]
  try rw [wWhl_fn]
  try rw [wCmp_fn]
  try rw [wE_fn]
  try rw [wT_fn]
  try rw [wO_fn]
  try rw [wA_fn]
  try rw [wI_fn]
  try rw [wS_fn]
  try rw [wK_fn]
  try rw [wOp_fn]
  try rw [wOq_fn]
  try rw [wN_fn]
  try rw [wRt_fn]
  try rw [wIf_fn]
  try rw [wGd_fn]
  try rw [wHr_fn]
  exact vE_notE
theorem wE_ifE {c a b : IE} : @wE C (.ifE c a b) st q x = @wT C c st ⟨fun k st => @wIf k ⟨@wE C a st ⟨fun r st => q.k (.v r.w) st⟩ x⟩ ⟨@wE C b st ⟨fun r st => q.k (.v r.w) st⟩ x⟩⟩ x := by
  try rw [wOs_fn]
  try rw [wSs_fn]
  try rw [wFor_fn]
  try rw [wWhl_fn]
  try rw [wCmp_fn]
  try rw [wE_fn]
  try rw [wT_fn]
  try rw [wO_fn]
  try rw [wA_fn]
  try rw [wI_fn]
  try rw [wS_fn]
  try rw [wK_fn]
  try rw [wOp_fn]
  try rw [wOq_fn]
  try rw [wN_fn]
  try rw [wRt_fn]
  try rw [wIf_fn]
  try rw [wGd_fn]
  try rw [wHr_fn]
  exact vE_ifE
theorem wE_call {f : Nat} {a : IA} : @wE C (.call f a) st q x = @wA C a st ⟨fun ws st => @wK (C f ws st.sto) ⟨fun r S => q.k r ⟨st.env, S⟩⟩ ⟨fun c fs S => x.x c fs ⟨st.env, S⟩⟩⟩ x := by
  try rw [wOs_fn]
  try rw [wSs_fn]
  try rw [wFor_fn]
  try rw [wWhl_fn]
  try rw [wCmp_fn]
  try rw [wE_fn]
  try rw [wT_fn]
  try rw [wO_fn]
  try rw [wA_fn]
  try rw [wI_fn]
  try rw [wS_fn]
  try rw [wK_fn]
  try rw [wOp_fn]
  try rw [wOq_fn]
  try rw [wN_fn]
  try rw [wRt_fn]
  try rw [wIf_fn]
  try rw [wGd_fn]
  try rw [wHr_fn]
  exact vE_call
theorem wE_blt {f : Bf} {a : IA} : @wE C (.blt f a) st q x = @wOs C a st ⟨fun os st => @wOp _ ((derefs st os).bind (blt1 f)) st q⟩ x := by
  try rw [wOs_fn]
  try rw [wSs_fn]
  try rw [wFor_fn]
  try rw [wWhl_fn]
  try rw [wCmp_fn]
  try rw [wE_fn]
  try rw [wT_fn]
  try rw [wO_fn]
  try rw [wA_fn]
  try rw [wI_fn]
  try rw [wS_fn]
  try rw [wK_fn]
  try rw [wOp_fn]
  try rw [wOq_fn]
  try rw [wN_fn]
  try rw [wRt_fn]
  try rw [wIf_fn]
  try rw [wGd_fn]
  try rw [wHr_fn]
  exact vE_blt
theorem wE_pop {i : Nat} {e : IE} : @wE C (.pop i e) st q x = @wGd (isOwnL st.env[i]?) ⟨@wE C e st ⟨fun k st => @wOq _ (popO st.env[i]? i k.w st) q⟩ x⟩ := by
  try rw [wOs_fn]
  try rw [wSs_fn]
  try rw [wFor_fn]
  try rw [wWhl_fn]
  try rw [wCmp_fn]
  try rw [wE_fn]
  try rw [wT_fn]
  try rw [wO_fn]
  try rw [wA_fn]
  try rw [wI_fn]
  try rw [wS_fn]
  try rw [wK_fn]
  try rw [wOp_fn]
  try rw [wOq_fn]
  try rw [wN_fn]
  try rw [wRt_fn]
  try rw [wIf_fn]
  try rw [wGd_fn]
  try rw [wHr_fn]
  exact vE_pop
theorem wE_comp {elt : IE} {g : TgI} {src : SI} {cond : IE} {has : Bool} : @wE C (.comp elt g src cond has) st q x = @wI C src st ⟨fun xs st => @wCmp C elt g cond has xs st q⟩ x := by
  try rw [wOs_fn]
  try rw [wSs_fn]
  try rw [wFor_fn]
  try rw [wWhl_fn]
  try rw [wCmp_fn]
  try rw [wE_fn]
  try rw [wT_fn]
  try rw [wO_fn]
  try rw [wA_fn]
  try rw [wI_fn]
  try rw [wS_fn]
  try rw [wK_fn]
  try rw [wOp_fn]
  try rw [wOq_fn]
  try rw [wN_fn]
  try rw [wRt_fn]
  try rw [wIf_fn]
  try rw [wGd_fn]
  try rw [wHr_fn]
  exact vE_comp
theorem wE_nref {e : IE} : @wE C (.nref e) st q x = @wE C e st ⟨fun r st => @wOq _ (nrefO r st) q⟩ x := by
  try rw [wOs_fn]
  try rw [wSs_fn]
  try rw [wFor_fn]
  try rw [wWhl_fn]
  try rw [wCmp_fn]
  try rw [wE_fn]
  try rw [wT_fn]
  try rw [wO_fn]
  try rw [wA_fn]
  try rw [wI_fn]
  try rw [wS_fn]
  try rw [wK_fn]
  try rw [wOp_fn]
  try rw [wOq_fn]
  try rw [wN_fn]
  try rw [wRt_fn]
  try rw [wIf_fn]
  try rw [wGd_fn]
  try rw [wHr_fn]
  exact vE_nref
theorem wE_idxOf {a b : IE} : @wE C (.idxOf a b) st q x = @wO C a st ⟨fun u st => @wGd (isLO (derefV u st)) ⟨@wO C b st ⟨fun v st => @wOp _ (pv2 idxOf2 u v st) st q⟩ x⟩⟩ x := by
  try rw [wOs_fn]
  try rw [wSs_fn]
  try rw [wFor_fn]
  try rw [wWhl_fn]
  try rw [wCmp_fn]
  try rw [wE_fn]
  try rw [wT_fn]
  try rw [wO_fn]
  try rw [wA_fn]
  try rw [wI_fn]
  try rw [wS_fn]
  try rw [wK_fn]
  try rw [wOp_fn]
  try rw [wOq_fn]
  try rw [wN_fn]
  try rw [wRt_fn]
  try rw [wIf_fn]
  try rw [wGd_fn]
  try rw [wHr_fn]
  exact vE_idxOf
end
theorem wO_var {i : Nat} {q : Ct OV} : @wO C (.var i) st q x = @wOp _ (opO st.env[i]? i) st q := by
  try rw [wOs_fn]
  try rw [wSs_fn]
  try rw [wFor_fn]
  try rw [wWhl_fn]
  try rw [wCmp_fn]
  try rw [wE_fn]
  try rw [wT_fn]
  try rw [wO_fn]
  try rw [wA_fn]
  try rw [wI_fn]
  try rw [wS_fn]
  try rw [wK_fn]
  try rw [wOp_fn]
  try rw [wOq_fn]
  try rw [wN_fn]
  try rw [wRt_fn]
  try rw [wIf_fn]
  try rw [wGd_fn]
  try rw [wHr_fn]
  exact vO_var
theorem wT_andE {a b : IE} {q : Ct Bool} : @wT C (.andE a b) st q x = @wT C a st ⟨fun c st => @wIf c ⟨@wT C b st q x⟩ ⟨q.k false st⟩⟩ x := by
  try rw [wOs_fn]
  try rw [wSs_fn]
  try rw [wFor_fn]
  try rw [wWhl_fn]
  try rw [wCmp_fn]
  try rw [wE_fn]
  try rw [wT_fn]
  try rw [wO_fn]
  try rw [wA_fn]
  try rw [wI_fn]
  try rw [wS_fn]
  try rw [wK_fn]
  try rw [wOp_fn]
  try rw [wOq_fn]
  try rw [wN_fn]
  try rw [wRt_fn]
  try rw [wIf_fn]
  try rw [wGd_fn]
  try rw [wHr_fn]
  exact vT_andE
theorem wT_orE {a b : IE} {q : Ct Bool} : @wT C (.orE a b) st q x = @wT C a st ⟨fun c st => @wIf c ⟨q.k true st⟩ ⟨@wT C b st q x⟩⟩ x := by
  try rw [wOs_fn]
  try rw [wSs_fn]
  try rw [wFor_fn]
  try rw [wWhl_fn]
  try rw [wCmp_fn]
  try rw [wE_fn]
  try rw [wT_fn]
  try rw [wO_fn]
  try rw [wA_fn]
  try rw [wI_fn]
  try rw [wS_fn]
  try rw [wK_fn]
  try rw [wOp_fn]
  try rw [wOq_fn]
  try rw [wN_fn]
  try rw [wRt_fn]
  try rw [wIf_fn]
  try rw [wGd_fn]
  try rw [wHr_fn]
  exact vT_orE
theorem wT_notE {a : IE} {q : Ct Bool} : @wT C (.notE a) st q x = @wT C a st ⟨fun c st => q.k (!c) st⟩ x := by
  try rw [wOs_fn]
  try rw [wSs_fn]
  try rw [wFor_fn]
  try rw [wWhl_fn]
  try rw [wCmp_fn]
  try rw [wE_fn]
  try rw [wT_fn]
  try rw [wO_fn]
  try rw [wA_fn]
  try rw [wI_fn]
  try rw [wS_fn]
  try rw [wK_fn]
  try rw [wOp_fn]
  try rw [wOq_fn]
  try rw [wN_fn]
  try rw [wRt_fn]
  try rw [wIf_fn]
  try rw [wGd_fn]
  try rw [wHr_fn]
  exact vT_notE
theorem wA_nil {q : Ct (List W)} : @wA C .nil st q x = q.k [] st := by
  try rw [wOs_fn]
  try rw [wSs_fn]
  try rw [wFor_fn]
  try rw [wWhl_fn]
  try rw [wCmp_fn]
  try rw [wE_fn]
  try rw [wT_fn]
  try rw [wO_fn]
  try rw [wA_fn]
  try rw [wI_fn]
  try rw [wS_fn]
  try rw [wK_fn]
  try rw [wOp_fn]
  try rw [wOq_fn]
  try rw [wN_fn]
  try rw [wRt_fn]
  try rw [wIf_fn]
  try rw [wGd_fn]
  try rw [wHr_fn]
  exact vA_nil
theorem wA_cons {e : IE} {r : IA} {q : Ct (List W)} : @wA C (.cons e r) st q x = @wE C e st ⟨fun v st => @wA C r st ⟨fun ws st => q.k (v.w :: ws) st⟩ x⟩ x := by
  try rw [wOs_fn]
  try rw [wSs_fn]
  try rw [wFor_fn]
  try rw [wWhl_fn]
  try rw [wCmp_fn]
  try rw [wE_fn]
  try rw [wT_fn]
  try rw [wO_fn]
  try rw [wA_fn]
  try rw [wI_fn]
  try rw [wS_fn]
  try rw [wK_fn]
  try rw [wOp_fn]
  try rw [wOq_fn]
  try rw [wN_fn]
  try rw [wRt_fn]
  try rw [wIf_fn]
  try rw [wGd_fn]
  try rw [wHr_fn]
  exact vA_cons
theorem wOs_nil {q : Ct (List OV)} : @wOs C .nil st q x = q.k [] st := by
  try rw [wOs_fn]
  try rw [wSs_fn]
  try rw [wFor_fn]
  try rw [wWhl_fn]
  try rw [wCmp_fn]
  try rw [wE_fn]
  try rw [wT_fn]
  try rw [wO_fn]
  try rw [wA_fn]
  try rw [wI_fn]
  try rw [wS_fn]
  try rw [wK_fn]
  try rw [wOp_fn]
  try rw [wOq_fn]
  try rw [wN_fn]
  try rw [wRt_fn]
  try rw [wIf_fn]
  try rw [wGd_fn]
  try rw [wHr_fn]
  exact vOs_nil
theorem wOs_cons {e : IE} {r : IA} {q : Ct (List OV)} : @wOs C (.cons e r) st q x = @wO C e st ⟨fun v st => @wOs C r st ⟨fun ws st => q.k (v :: ws) st⟩ x⟩ x := by
  try rw [wOs_fn]
  try rw [wSs_fn]
  try rw [wFor_fn]
  try rw [wWhl_fn]
  try rw [wCmp_fn]
  try rw [wE_fn]
  try rw [wT_fn]
  try rw [wO_fn]
  try rw [wA_fn]
  try rw [wI_fn]
  try rw [wS_fn]
  try rw [wK_fn]
  try rw [wOp_fn]
  try rw [wOq_fn]
  try rw [wN_fn]
  try rw [wRt_fn]
  try rw [wIf_fn]
  try rw [wGd_fn]
  try rw [wHr_fn]
  exact vOs_cons
theorem wI_seq {e : IE} {q : Ct (List W)} : @wI C (.seq e) st q x = @wE C e st ⟨fun r st => @wOp _ (items r.w) st q⟩ x := by
  try rw [wOs_fn]
  try rw [wSs_fn]
  try rw [wFor_fn]
  try rw [wWhl_fn]
  try rw [wCmp_fn]
  try rw [wE_fn]
  try rw [wT_fn]
  try rw [wO_fn]
  try rw [wA_fn]
  try rw [wI_fn]
  try rw [wS_fn]
  try rw [wK_fn]
  try rw [wOp_fn]
  try rw [wOq_fn]
  try rw [wN_fn]
  try rw [wRt_fn]
  try rw [wIf_fn]
  try rw [wGd_fn]
  try rw [wHr_fn]
  exact vI_seq
theorem wI_rng {e : IE} {q : Ct (List W)} : @wI C (.rng e) st q x = @wE C e st ⟨fun r st => @wOp _ (rngO r.w) st q⟩ x := by
  try rw [wOs_fn]
  try rw [wSs_fn]
  try rw [wFor_fn]
  try rw [wWhl_fn]
  try rw [wCmp_fn]
  try rw [wE_fn]
  try rw [wT_fn]
  try rw [wO_fn]
  try rw [wA_fn]
  try rw [wI_fn]
  try rw [wS_fn]
  try rw [wK_fn]
  try rw [wOp_fn]
  try rw [wOq_fn]
  try rw [wN_fn]
  try rw [wRt_fn]
  try rw [wIf_fn]
  try rw [wGd_fn]
  try rw [wHr_fn]
  exact vI_rng
theorem wI_enm {e : IE} {q : Ct (List W)} : @wI C (.enm e) st q x = @wE C e st ⟨fun r st => @wOp _ (enmO r.w) st q⟩ x := by
  try rw [wOs_fn]
  try rw [wSs_fn]
  try rw [wFor_fn]
  try rw [wWhl_fn]
  try rw [wCmp_fn]
  try rw [wE_fn]
  try rw [wT_fn]
  try rw [wO_fn]
  try rw [wA_fn]
  try rw [wI_fn]
  try rw [wS_fn]
  try rw [wK_fn]
  try rw [wOp_fn]
  try rw [wOq_fn]
  try rw [wN_fn]
  try rw [wRt_fn]
  try rw [wIf_fn]
  try rw [wGd_fn]
  try rw [wHr_fn]
  exact vI_enm
theorem wSs_nil : @wSs C .nil st Q = Q.nx st := by
  try rw [wOs_fn]
  try rw [wSs_fn]
  try rw [wFor_fn]
  try rw [wWhl_fn]
  try rw [wCmp_fn]
  try rw [wE_fn]
  try rw [wT_fn]
  try rw [wO_fn]
  try rw [wA_fn]
  try rw [wI_fn]
  try rw [wS_fn]
  try rw [wK_fn]
  try rw [wOp_fn]
  try rw [wOq_fn]
  try rw [wN_fn]
  try rw [wRt_fn]
  try rw [wIf_fn]
  try rw [wGd_fn]
  try rw [wHr_fn]
  exact vSs_nil
theorem wSs_cons {s : IS} {r : IB} : @wSs C (.cons s r) st Q = @wS C s st (Q.seq fun st => @wSs C r st Q) := by
  try rw [wOs_fn]
  try rw [wSs_fn]
  try rw [wFor_fn]
  try rw [wWhl_fn]
  try rw [wCmp_fn]
  try rw [wE_fn]
  try rw [wT_fn]
  try rw [wO_fn]
  try rw [wA_fn]
  try rw [wI_fn]
  try rw [wS_fn]
  try rw [wK_fn]
  try rw [wOp_fn]
  try rw [wOq_fn]
  try rw [wN_fn]
  try rw [wRt_fn]
  try rw [wIf_fn]
  try rw [wGd_fn]
  try rw [wHr_fn]
  exact vSs_cons
theorem wS_asg {i : Nat} {e : IE} : @wS C (.asg i e) st Q = @wE C e st ⟨fun r st => Q.nx ⟨st.env.set i (some (slOf r)), st.sto⟩⟩ ⟨Q.ex⟩ := by
  try rw [wOs_fn]
  try rw [wSs_fn]
  try rw [wFor_fn]
  try rw [wWhl_fn]
  try rw [wCmp_fn]
  try rw [wE_fn]
  try rw [wT_fn]
  try rw [wO_fn]
  try rw [wA_fn]
  try rw [wI_fn]
  try rw [wS_fn]
  try rw [wK_fn]
  try rw [wOp_fn]
  try rw [wOq_fn]
  try rw [wN_fn]
  try rw [wRt_fn]
  try rw [wIf_fn]
  try rw [wGd_fn]
  try rw [wHr_fn]
  exact vS_asg
theorem wS_unp {l : List Nat} {e : IE} : @wS C (.unp l e) st Q = @wE C e st ⟨fun r st => @wN (setTO (.tp l) r.w st) Q⟩ ⟨Q.ex⟩ := by
  try rw [wOs_fn]
  try rw [wSs_fn]
  try rw [wFor_fn]
  try rw [wWhl_fn]
  try rw [wCmp_fn]
  try rw [wE_fn]
  try rw [wT_fn]
  try rw [wO_fn]
  try rw [wA_fn]
  try rw [wI_fn]
  try rw [wS_fn]
  try rw [wK_fn]
  try rw [wOp_fn]
  try rw [wOq_fn]
  try rw [wN_fn]
  try rw [wRt_fn]
  try rw [wIf_fn]
  try rw [wGd_fn]
  try rw [wHr_fn]
  exact vS_unp
theorem wS_par {i j : Nat} {a b : IE} : @wS C (.par i j a b) st Q = @wE C a st ⟨fun r st => @wE C b st ⟨fun u st => Q.nx ⟨(st.env.set i (some (slOf r))).set j (some (slOf u)), st.sto⟩⟩ ⟨Q.ex⟩⟩ ⟨Q.ex⟩ := by
  try rw [wOs_fn]
  try rw [wSs_fn]
  try rw [wFor_fn]
  try rw [wWhl_fn]
  try rw [wCmp_fn]
  try rw [wE_fn]
  try rw [wT_fn]
  try rw [wO_fn]
  try rw [wA_fn]
  try rw [wI_fn]
  try rw [wS_fn]
  try rw [wK_fn]
  try rw [wOp_fn]
  try rw [wOq_fn]
  try rw [wN_fn]
  try rw [wRt_fn]
  try rw [wIf_fn]
  try rw [wGd_fn]
  try rw [wHr_fn]
  exact vS_par
theorem wS_setI {o k e : IE} : @wS C (.setI o k e) st Q = @wE C e st ⟨fun r st => @wO C o st ⟨fun a st => @wO C k st ⟨fun b st => @wN (setIO r (deref a st.env) (deref b st.env) st) Q⟩ ⟨Q.ex⟩⟩ ⟨Q.ex⟩⟩ ⟨Q.ex⟩ := by
  try rw [wOs_fn]
  try rw [wSs_fn]
  try rw [wFor_fn]
  try rw [wWhl_fn]
  try rw [wCmp_fn]
  try rw [wE_fn]
  try rw [wT_fn]
  try rw [wO_fn]
  try rw [wA_fn]
  try rw [wI_fn]
  try rw [wS_fn]
  try rw [wK_fn]
  try rw [wOp_fn]
  try rw [wOq_fn]
  try rw [wN_fn]
  try rw [wRt_fn]
  try rw [wIf_fn]
  try rw [wGd_fn]
  try rw [wHr_fn]
  exact vS_setI
theorem wS_ex {e : IE} : @wS C (.ex e) st Q = @wE C e st ⟨fun _ st => Q.nx st⟩ ⟨Q.ex⟩ := by
  try rw [wOs_fn]
  try rw [wSs_fn]
  try rw [wFor_fn]
  try rw [wWhl_fn]
  try rw [wCmp_fn]
  try rw [wE_fn]
  try rw [wT_fn]
  try rw [wO_fn]
  try rw [wA_fn]
  try rw [wI_fn]
  try rw [wS_fn]
  try rw [wK_fn]
  try rw [wOp_fn]
  try rw [wOq_fn]
  try rw [wN_fn]
  try rw [wRt_fn]
  try rw [wIf_fn]
  try rw [wGd_fn]
  try rw [wHr_fn]
  exact vS_ex
theorem wS_ifS {c : IE} {a b : IB} : @wS C (.ifS c a b) st Q = @wT C c st ⟨fun k st => @wIf k ⟨@wSs C a st Q⟩ ⟨@wSs C b st Q⟩⟩ ⟨Q.ex⟩ := by
  try rw [wOs_fn]
  try rw [wSs_fn]
  try rw [wFor_fn]
  try rw [wWhl_fn]
  try rw [wCmp_fn]
  try rw [wE_fn]
  try rw [wT_fn]
  try rw [wO_fn]
  try rw [wA_fn]
  try rw [wI_fn]
  try rw [wS_fn]
  try rw [wK_fn]
  try rw [wOp_fn]
  try rw [wOq_fn]
  try rw [wN_fn]
  try rw [wRt_fn]
  try rw [wIf_fn]
  try rw [wGd_fn]
  try rw [wHr_fn]
  exact vS_ifS
theorem wS_whl {c : IE} {b : IB} : @wS C (.whl c b) st Q = @wWhl C c b st Q := by
  try rw [wOs_fn]
  try rw [wSs_fn]
  try rw [wFor_fn]
  try rw [wWhl_fn]
  try rw [wCmp_fn]
  try rw [wE_fn]
  try rw [wT_fn]
  try rw [wO_fn]
  try rw [wA_fn]
  try rw [wI_fn]
  try rw [wS_fn]
  try rw [wK_fn]
  try rw [wOp_fn]
  try rw [wOq_fn]
  try rw [wN_fn]
  try rw [wRt_fn]
  try rw [wIf_fn]
  try rw [wGd_fn]
  try rw [wHr_fn]
  exact vS_whl
theorem wS_forS {g : TgI} {s : SI} {b : IB} : @wS C (.forS g s b) st Q = @wI C s st ⟨fun xs st => @wFor C g b xs st Q⟩ ⟨Q.ex⟩ := by
  try rw [wOs_fn]
  try rw [wSs_fn]
  try rw [wFor_fn]
  try rw [wWhl_fn]
  try rw [wCmp_fn]
  try rw [wE_fn]
  try rw [wT_fn]
  try rw [wO_fn]
  try rw [wA_fn]
  try rw [wI_fn]
  try rw [wS_fn]
  try rw [wK_fn]
  try rw [wOp_fn]
  try rw [wOq_fn]
  try rw [wN_fn]
  try rw [wRt_fn]
  try rw [wIf_fn]
  try rw [wGd_fn]
  try rw [wHr_fn]
  exact vS_forS
theorem wS_retV {i : Nat} : @wS C (.ret (.var i)) st Q = @wRt (retO st.env[i]?) st.sto Q := by
  try rw [wOs_fn]
  try rw [wSs_fn]
  try rw [wFor_fn]
  try rw [wWhl_fn]
  try rw [wCmp_fn]
  try rw [wE_fn]
  try rw [wT_fn]
  try rw [wO_fn]
  try rw [wA_fn]
  try rw [wI_fn]
  try rw [wS_fn]
  try rw [wK_fn]
  try rw [wOp_fn]
  try rw [wOq_fn]
  try rw [wN_fn]
  try rw [wRt_fn]
  try rw [wIf_fn]
  try rw [wGd_fn]
  try rw [wHr_fn]
  exact vS_retV
theorem wS_retN : @wS C .retN st Q = Q.rt (.v .non) st.sto := by
  try rw [wOs_fn]
  try rw [wSs_fn]
  try rw [wFor_fn]
  try rw [wWhl_fn]
  try rw [wCmp_fn]
  try rw [wE_fn]
  try rw [wT_fn]
  try rw [wO_fn]
  try rw [wA_fn]
  try rw [wI_fn]
  try rw [wS_fn]
  try rw [wK_fn]
  try rw [wOp_fn]
  try rw [wOq_fn]
  try rw [wN_fn]
  try rw [wRt_fn]
  try rw [wIf_fn]
  try rw [wGd_fn]
  try rw [wHr_fn]
  exact vS_retN
theorem wS_pass : @wS C .pass st Q = Q.nx st := by
  try rw [wOs_fn]
  try rw [wSs_fn]
  try rw [wFor_fn]
  try rw [wWhl_fn]
  try rw [wCmp_fn]
  try rw [wE_fn]
  try rw [wT_fn]
  try rw [wO_fn]
  try rw [wA_fn]
  try rw [wI_fn]
  try rw [wS_fn]
  try rw [wK_fn]
  try rw [wOp_fn]
  try rw [wOq_fn]
  try rw [wN_fn]
  try rw [wRt_fn]
  try rw [wIf_fn]
  try rw [wGd_fn]
  try rw [wHr_fn]
  exact vS_pass
theorem wS_brk : @wS C .brk st Q = Q.bk st := by
  try rw [wOs_fn]
  try rw [wSs_fn]
  try rw [wFor_fn]
  try rw [wWhl_fn]
  try rw [wCmp_fn]
  try rw [wE_fn]
  try rw [wT_fn]
  try rw [wO_fn]
  try rw [wA_fn]
  try rw [wI_fn]
  try rw [wS_fn]
  try rw [wK_fn]
  try rw [wOp_fn]
  try rw [wOq_fn]
  try rw [wN_fn]
  try rw [wRt_fn]
  try rw [wIf_fn]
  try rw [wGd_fn]
  try rw [wHr_fn]
  exact vS_brk
theorem wS_cnt : @wS C .cnt st Q = Q.ct st := by
  try rw [wOs_fn]
  try rw [wSs_fn]
  try rw [wFor_fn]
  try rw [wWhl_fn]
  try rw [wCmp_fn]
  try rw [wE_fn]
  try rw [wT_fn]
  try rw [wO_fn]
  try rw [wA_fn]
  try rw [wI_fn]
  try rw [wS_fn]
  try rw [wK_fn]
  try rw [wOp_fn]
  try rw [wOq_fn]
  try rw [wN_fn]
  try rw [wRt_fn]
  try rw [wIf_fn]
  try rw [wGd_fn]
  try rw [wHr_fn]
  exact vS_cnt
theorem wS_nvr : @wS C .nvr st Q = False := by
  try rw [wOs_fn]
  try rw [wSs_fn]
  try rw [wFor_fn]
  try rw [wWhl_fn]
  try rw [wCmp_fn]
  try rw [wE_fn]
  try rw [wT_fn]
  try rw [wO_fn]
  try rw [wA_fn]
  try rw [wI_fn]
  try rw [wS_fn]
  try rw [wK_fn]
  try rw [wOp_fn]
  try rw [wOq_fn]
  try rw [wN_fn]
  try rw [wRt_fn]
  try rw [wIf_fn]
  try rw [wGd_fn]
  try rw [wHr_fn]
  exact vS_nvr
theorem wS_rse {c : Nat} {fs : List Str} {a : IA} : @wS C (.rse c fs a) st Q = @wA C a st ⟨fun ws st => @wGd (ws.length == fs.length) ⟨Q.ex c (fs.zip ws).reverse st⟩⟩ ⟨Q.ex⟩ := by
  try rw [wOs_fn]
  try rw [wSs_fn]
  try rw [wFor_fn]
  try rw [wWhl_fn]
  try rw [wCmp_fn]
  try rw [wE_fn]
  try rw [wT_fn]
  try rw [wO_fn]
  try rw [wA_fn]
  try rw [wI_fn]
  try rw [wS_fn]
  try rw [wK_fn]
  try rw [wOp_fn]
  try rw [wOq_fn]
  try rw [wN_fn]
  try rw [wRt_fn]
  try rw [wIf_fn]
  try rw [wGd_fn]
  try rw [wHr_fn]
  exact vS_rse
theorem wS_tryE {b : IB} {hs : List Hd} : @wS C (.tryE b hs) st Q = @wSs C b st { Q with ex := fun c fs st => @wHr hs c fs st Q } := by
  try rw [wOs_fn]
  try rw [wSs_fn]
  try rw [wFor_fn]
  try rw [wWhl_fn]
  try rw [wCmp_fn]
  try rw [wE_fn]
  try rw [wT_fn]
  try rw [wO_fn]
  try rw [wA_fn]
  try rw [wI_fn]
  try rw [wS_fn]
  try rw [wK_fn]
  try rw [wOp_fn]
  try rw [wOq_fn]
  try rw [wN_fn]
  try rw [wRt_fn]
  try rw [wIf_fn]
  try rw [wGd_fn]
  try rw [wHr_fn]
  exact vS_tryE
theorem wHr_nil {c : Nat} {fs : Flds} : @wHr [] c fs st Q = Q.ex c fs st := by
  try rw [wOs_fn]
  try rw [wSs_fn]
  try rw [wFor_fn]
  try rw [wWhl_fn]
  try rw [wCmp_fn]
  try rw [wE_fn]
  try rw [wT_fn]
  try rw [wO_fn]
  try rw [wA_fn]
  try rw [wI_fn]
  try rw [wS_fn]
  try rw [wK_fn]
  try rw [wOp_fn]
  try rw [wOq_fn]
  try rw [wN_fn]
  try rw [wRt_fn]
  try rw [wIf_fn]
  try rw [wGd_fn]
  try rw [wHr_fn]
  exact vHr_nil
theorem wHr_cons {h : Hd} {r : List Hd} {c : Nat} {fs : Flds} : @wHr (h :: r) c fs st Q = @wIf (h.cs.contains c) ⟨@wGd (inE h.oi st.env) ⟨@wN (hrO h fs st) Q⟩⟩ ⟨@wHr r c fs st Q⟩ := by
  try rw [wOs_fn]
  try rw [wSs_fn]
  try rw [wFor_fn]
  try rw [wWhl_fn]
  try rw [wCmp_fn]
  try rw [wE_fn]
  try rw [wT_fn]
  try rw [wO_fn]
  try rw [wA_fn]
  try rw [wI_fn]
  try rw [wS_fn]
  try rw [wK_fn]
  try rw [wOp_fn]
  try rw [wOq_fn]
  try rw [wN_fn]
  try rw [wRt_fn]
  try rw [wIf_fn]
  try rw [wGd_fn]
  try rw [wHr_fn]
  exact vHr_cons
theorem wS_app {i : Nat} {e : IE} : @wS C (.app i e) st Q = @wGd (isAppL st.env[i]? st.sto) ⟨@wE C e st ⟨fun r st' => @wN (appO2 (isOwnL st.env[i]?) st'.env[i]? i r st') Q⟩ ⟨Q.ex⟩⟩ := by
  try rw [wOs_fn]
  try rw [wSs_fn]
  try rw [wFor_fn]
  try rw [wWhl_fn]
  try rw [wCmp_fn]
  try rw [wE_fn]
  try rw [wT_fn]
  try rw [wO_fn]
  try rw [wA_fn]
  try rw [wI_fn]
  try rw [wS_fn]
  try rw [wK_fn]
  try rw [wOp_fn]
  try rw [wOq_fn]
  try rw [wN_fn]
  try rw [wRt_fn]
  try rw [wIf_fn]
  try rw [wGd_fn]
  try rw [wHr_fn]
  exact vS_app
end
section
variable {C : CT} {st : ST} {x : Xk} {Q : Qs}
theorem wO_non  {q : Ct OV} : @wO C .non st q x = @wE C .non st ⟨fun r st => q.k (.v r.w) st⟩ x := by
  try rw [wOs_fn]
  try rw [wSs_fn]
  try rw [wFor_fn]
  try rw [wWhl_fn]
  try rw [wCmp_fn]
  try rw [wE_fn]
  try rw [wT_fn]
  try rw [wO_fn]
  try rw [wA_fn]
  try rw [wI_fn]
  try rw [wS_fn]
  try rw [wK_fn]
  try rw [wOp_fn]
  try rw [wOq_fn]
  try rw [wN_fn]
  try rw [wRt_fn]
  try rw [wIf_fn]
  try rw [wGd_fn]
  try rw [wHr_fn]
  exact vO_non
theorem wT_non  {q : Ct Bool} : @wT C .non st q x = @wE C .non st ⟨fun r st => @wOp _ (truth (vw st.sto r.w)) st q⟩ x := by
  try rw [wOs_fn]
  try rw [wSs_fn]
  try rw [wFor_fn]
  try rw [wWhl_fn]
  try rw [wCmp_fn]
  try rw [wE_fn]
  try rw [wT_fn]
  try rw [wO_fn]
  try rw [wA_fn]
  try rw [wI_fn]
  try rw [wS_fn]
  try rw [wK_fn]
  try rw [wOp_fn]
  try rw [wOq_fn]
  try rw [wN_fn]
  try rw [wRt_fn]
  try rw [wIf_fn]
  try rw [wGd_fn]
  try rw [wHr_fn]
  exact vT_non
theorem wS_ret_non  : @wS C (.ret .non) st Q = @wE C .non st ⟨fun r st => Q.rt r st.sto⟩ ⟨Q.ex⟩ := by
  try rw [wOs_fn]
  try rw [wSs_fn]
  try rw [wFor_fn]
  try rw [wWhl_fn]
  try rw [wCmp_fn]
  try rw [wE_fn]
  try rw [wT_fn]
  try rw [wO_fn]
  try rw [wA_fn]
  try rw [wI_fn]
  try rw [wS_fn]
  try rw [wK_fn]
  try rw [wOp_fn]
  try rw [wOq_fn]
  try rw [wN_fn]
  try rw [wRt_fn]
  try rw [wIf_fn]
  try rw [wGd_fn]
  try rw [wHr_fn]
  exact vS_ret_non
theorem wO_bl {b : Bool} {q : Ct OV} : @wO C (.bl b) st q x = @wE C (.bl b) st ⟨fun r st => q.k (.v r.w) st⟩ x := by
  try rw [wOs_fn]
  try rw [wSs_fn]
  try rw [wFor_fn]
  try rw [wWhl_fn]
  try rw [wCmp_fn]
  try rw [wE_fn]
  try rw [wT_fn]
  try rw [wO_fn]
  try rw [wA_fn]
  try rw [wI_fn]
  try rw [wS_fn]
  try rw [wK_fn]
  try rw [wOp_fn]
  try rw [wOq_fn]
  try rw [wN_fn]
  try rw [wRt_fn]
  try rw [wIf_fn]
  try rw [wGd_fn]
  try rw [wHr_fn]
  exact vO_bl
theorem wT_bl {b : Bool} {q : Ct Bool} : @wT C (.bl b) st q x = @wE C (.bl b) st ⟨fun r st => @wOp _ (truth (vw st.sto r.w)) st q⟩ x := by
  try rw [wOs_fn]
  try rw [wSs_fn]
  try rw [wFor_fn]
  try rw [wWhl_fn]
  try rw [wCmp_fn]
  try rw [wE_fn]
  try rw [wT_fn]
  try rw [wO_fn]
  try rw [wA_fn]
  try rw [wI_fn]
  try rw [wS_fn]
  try rw [wK_fn]
  try rw [wOp_fn]
  try rw [wOq_fn]
  try rw [wN_fn]
  try rw [wRt_fn]
  try rw [wIf_fn]
  try rw [wGd_fn]
  try rw [wHr_fn]
  exact vT_bl
theorem wS_ret_bl {b : Bool} : @wS C (.ret (.bl b)) st Q = @wE C (.bl b) st ⟨fun r st => Q.rt r st.sto⟩ ⟨Q.ex⟩ := by
  try rw [wOs_fn]
  try rw [wSs_fn]
  try rw [wFor_fn]
  try rw [wWhl_fn]
  try rw [wCmp_fn]
  try rw [wE_fn]
  try rw [wT_fn]
  try rw [wO_fn]
  try rw [wA_fn]
  try rw [wI_fn]
  try rw [wS_fn]
  try rw [wK_fn]
  try rw [wOp_fn]
  try rw [wOq_fn]
  try rw [wN_fn]
  try rw [wRt_fn]
  try rw [wIf_fn]
  try rw [wGd_fn]
  try rw [wHr_fn]
  exact vS_ret_bl
theorem wO_int {i : Int} {q : Ct OV} : @wO C (.int i) st q x = @wE C (.int i) st ⟨fun r st => q.k (.v r.w) st⟩ x := by
  try rw [wOs_fn]
  try rw [wSs_fn]
  try rw [wFor_fn]
  try rw [wWhl_fn]
  try rw [wCmp_fn]
  try rw [wE_fn]
  try rw [wT_fn]
  try rw [wO_fn]
  try rw [wA_fn]
  try rw [wI_fn]
  try rw [wS_fn]
  try rw [wK_fn]
  try rw [wOp_fn]
  try rw [wOq_fn]
  try rw [wN_fn]
  try rw [wRt_fn]
  try rw [wIf_fn]
  try rw [wGd_fn]
  try rw [wHr_fn]
  exact vO_int
theorem wT_int {i : Int} {q : Ct Bool} : @wT C (.int i) st q x = @wE C (.int i) st ⟨fun r st => @wOp _ (truth (vw st.sto r.w)) st q⟩ x := by
  try rw [wOs_fn]
  try rw [wSs_fn]
  try rw [wFor_fn]
  try rw [wWhl_fn]
  try rw [wCmp_fn]
  try rw [wE_fn]
  try rw [wT_fn]
  try rw [wO_fn]
  try rw [wA_fn]
  try rw [wI_fn]
  try rw [wS_fn]
  try rw [wK_fn]
  try rw [wOp_fn]
  try rw [wOq_fn]
  try rw [wN_fn]
  try rw [wRt_fn]
  try rw [wIf_fn]
  try rw [wGd_fn]
  try rw [wHr_fn]
  exact vT_int
theorem wS_ret_int {i : Int} : @wS C (.ret (.int i)) st Q = @wE C (.int i) st ⟨fun r st => Q.rt r st.sto⟩ ⟨Q.ex⟩ := by
  try rw [wOs_fn]
  try rw [wSs_fn]
  try rw [wFor_fn]
  try rw [wWhl_fn]
  try rw [wCmp_fn]
  try rw [wE_fn]
  try rw [wT_fn]
  try rw [wO_fn]
  try rw [wA_fn]
  try rw [wI_fn]
  try rw [wS_fn]
  try rw [wK_fn]
  try rw [wOp_fn]
  try rw [wOq_fn]
  try rw [wN_fn]
  try rw [wRt_fn]
  try rw [wIf_fn]
  try rw [wGd_fn]
  try rw [wHr_fn]
  exact vS_ret_int
theorem wO_str {s : Str} {q : Ct OV} : @wO C (.str s) st q x = @wE C (.str s) st ⟨fun r st => q.k (.v r.w) st⟩ x := by
  try rw [wOs_fn]
  try rw [wSs_fn]
  try rw [wFor_fn]
  try rw [wWhl_fn]
  try rw [wCmp_fn]
  try rw [wE_fn]
  try rw [wT_fn]
  try rw [wO_fn]
  try rw [wA_fn]
  try rw [wI_fn]
  try rw [wS_fn]
  try rw [wK_fn]
  try rw [wOp_fn]
  try rw [wOq_fn]
  try rw [wN_fn]
  try rw [wRt_fn]
  try rw [wIf_fn]
  try rw [wGd_fn]
  try rw [wHr_fn]
  exact vO_str
theorem wT_str {s : Str} {q : Ct Bool} : @wT C (.str s) st q x = @wE C (.str s) st ⟨fun r st => @wOp _ (truth (vw st.sto r.w)) st q⟩ x := by
  try rw [wOs_fn]
  try rw [wSs_fn]
  try rw [wFor_fn]
  try rw [wWhl_fn]
  try rw [wCmp_fn]
  try rw [wE_fn]
  try rw [wT_fn]
  try rw [wO_fn]
  try rw [wA_fn]
  try rw [wI_fn]
  try rw [wS_fn]
  try rw [wK_fn]
  try rw [wOp_fn]
  try rw [wOq_fn]
  try rw [wN_fn]
  try rw [wRt_fn]
  try rw [wIf_fn]
  try rw [wGd_fn]
  try rw [wHr_fn]
  exact vT_str
theorem wS_ret_str {s : Str} : @wS C (.ret (.str s)) st Q = @wE C (.str s) st ⟨fun r st => Q.rt r st.sto⟩ ⟨Q.ex⟩ := by
  try rw [wOs_fn]
  try rw [wSs_fn]
  try rw [wFor_fn]
  try rw [wWhl_fn]
  try rw [wCmp_fn]
  try rw [wE_fn]
  try rw [wT_fn]
  try rw [wO_fn]
  try rw [wA_fn]
  try rw [wI_fn]
  try rw [wS_fn]
  try rw [wK_fn]
  try rw [wOp_fn]
  try rw [wOq_fn]
  try rw [wN_fn]
  try rw [wRt_fn]
  try rw [wIf_fn]
  try rw [wGd_fn]
  try rw [wHr_fn]
  exact vS_ret_str
theorem wO_tup {a : IA} {q : Ct OV} : @wO C (.tup a) st q x = @wE C (.tup a) st ⟨fun r st => q.k (.v r.w) st⟩ x := by
  try rw [wOs_fn]
  try rw [wSs_fn]
  try rw [wFor_fn]
  try rw [wWhl_fn]
  try rw [wCmp_fn]
  try rw [wE_fn]
  try rw [wT_fn]
  try rw [wO_fn]
  try rw [wA_fn]
  try rw [wI_fn]
  try rw [wS_fn]
  try rw [wK_fn]
  try rw [wOp_fn]
  try rw [wOq_fn]
  try rw [wN_fn]
  try rw [wRt_fn]
  try rw [wIf_fn]
  try rw [wGd_fn]
  try rw [wHr_fn]
  exact vO_tup
theorem wT_tup {a : IA} {q : Ct Bool} : @wT C (.tup a) st q x = @wE C (.tup a) st ⟨fun r st => @wOp _ (truth (vw st.sto r.w)) st q⟩ x := by
  try rw [wOs_fn]
  try rw [wSs_fn]
  try rw [wFor_fn]
  try rw [wWhl_fn]
  try rw [wCmp_fn]
  try rw [wE_fn]
  try rw [wT_fn]
  try rw [wO_fn]
  try rw [wA_fn]
  try rw [wI_fn]
  try rw [wS_fn]
  try rw [wK_fn]
  try rw [wOp_fn]
  try rw [wOq_fn]
  try rw [wN_fn]
  try rw [wRt_fn]
  try rw [wIf_fn]
  try rw [wGd_fn]
  try rw [wHr_fn]
  exact vT_tup
theorem wS_ret_tup {a : IA} : @wS C (.ret (.tup a)) st Q = @wE C (.tup a) st ⟨fun r st => Q.rt r st.sto⟩ ⟨Q.ex⟩ := by
  try rw [wOs_fn]
  try rw [wSs_fn]
  try rw [wFor_fn]
  try rw [wWhl_fn]
  try rw [wCmp_fn]
  try rw [wE_fn]
  try rw [wT_fn]
  try rw [wO_fn]
  try rw [wA_fn]
  try rw [wI_fn]
  try rw [wS_fn]
  try rw [wK_fn]
  try rw [wOp_fn]
  try rw [wOq_fn]
  try rw [wN_fn]
  try rw [wRt_fn]
  try rw [wIf_fn]
  try rw [wGd_fn]
  try rw [wHr_fn]
  exact vS_ret_tup
theorem wO_lst {a : IA} {q : Ct OV} : @wO C (.lst a) st q x = @wE C (.lst a) st ⟨fun r st => q.k (.v r.w) st⟩ x := by
  try rw [wOs_fn]
  try rw [wSs_fn]
  try rw [wFor_fn]
  try rw [wWhl_fn]
  try rw [wCmp_fn]
  try rw [wE_fn]
  try rw [wT_fn]
  try rw [wO_fn]
  try rw [wA_fn]
  try rw [wI_fn]
  try rw [wS_fn]
  try rw [wK_fn]
  try rw [wOp_fn]
  try rw [wOq_fn]
  try rw [wN_fn]
  try rw [wRt_fn]
  try rw [wIf_fn]
  try rw [wGd_fn]
  try rw [wHr_fn]
  exact vO_lst
theorem wT_lst {a : IA} {q : Ct Bool} : @wT C (.lst a) st q x = @wE C (.lst a) st ⟨fun r st => @wOp _ (truth (vw st.sto r.w)) st q⟩ x := by
  try rw [wOs_fn]
  try rw [wSs_fn]
  try rw [wFor_fn]
  try rw [wWhl_fn]
  try rw [wCmp_fn]
  try rw [wE_fn]
  try rw [wT_fn]
  try rw [wO_fn]
  try rw [wA_fn]
  try rw [wI_fn]
  try rw [wS_fn]
  try rw [wK_fn]
  try rw [wOp_fn]
  try rw [wOq_fn]
  try rw [wN_fn]
  try rw [wRt_fn]
  try rw [wIf_fn]
  try rw [wGd_fn]
  try rw [wHr_fn]
  exact vT_lst
theorem wS_ret_lst {a : IA} : @wS C (.ret (.lst a)) st Q = @wE C (.lst a) st ⟨fun r st => Q.rt r st.sto⟩ ⟨Q.ex⟩ := by
  try rw [wOs_fn]
  try rw [wSs_fn]
  try rw [wFor_fn]
  try rw [wWhl_fn]
  try rw [wCmp_fn]
  try rw [wE_fn]
  try rw [wT_fn]
  try rw [wO_fn]
  try rw [wA_fn]
  try rw [wI_fn]
  try rw [wS_fn]
  try rw [wK_fn]
  try rw [wOp_fn]
  try rw [wOq_fn]
  try rw [wN_fn]
  try rw [wRt_fn]
  try rw [wIf_fn]
  try rw [wGd_fn]
  try rw [wHr_fn]
  exact vS_ret_lst
theorem wO_bin {o : Op2} {a b : IE} {q : Ct OV} : @wO C (.bin o a b) st q x = @wE C (.bin o a b) st ⟨fun r st => q.k (.v r.w) st⟩ x := by
  try rw [wOs_fn]
  try rw [wSs_fn]
  try rw [wFor_fn]
  try rw [wWhl_fn]
  try rw [wCmp_fn]
  try rw [wE_fn]
  try rw [wT_fn]
  try rw [wO_fn]
  try rw [wA_fn]
  try rw [wI_fn]
  try rw [wS_fn]
  try rw [wK_fn]
  try rw [wOp_fn]
  try rw [wOq_fn]
  try rw [wN_fn]
  try rw [wRt_fn]
  try rw [wIf_fn]
  try rw [wGd_fn]
  try rw [wHr_fn]
  exact vO_bin
theorem wT_bin {o : Op2} {a b : IE} {q : Ct Bool} : @wT C (.bin o a b) st q x = @wE C (.bin o a b) st ⟨fun r st => @wOp _ (truth (vw st.sto r.w)) st q⟩ x := by
  try rw [wOs_fn]
  try rw [wSs_fn]
  try rw [wFor_fn]
  try rw [wWhl_fn]
  try rw [wCmp_fn]
  try rw [wE_fn]
  try rw [wT_fn]
  try rw [wO_fn]
  try rw [wA_fn]
  try rw [wI_fn]
  try rw [wS_fn]
  try rw [wK_fn]
  try rw [wOp_fn]
  try rw [wOq_fn]
  try rw [wN_fn]
  try rw [wRt_fn]
  try rw [wIf_fn]
  try rw [wGd_fn]
  try rw [wHr_fn]
  exact vT_bin
theorem wS_ret_bin {o : Op2} {a b : IE} : @wS C (.ret (.bin o a b)) st Q = @wE C (.bin o a b) st ⟨fun r st => Q.rt r st.sto⟩ ⟨Q.ex⟩ := by
  try rw [wOs_fn]
  try rw [wSs_fn]
  try rw [wFor_fn]
  try rw [wWhl_fn]
  try rw [wCmp_fn]
  try rw [wE_fn]
  try rw [wT_fn]
  try rw [wO_fn]
  try rw [wA_fn]
  try rw [wI_fn]
  try rw [wS_fn]
  try rw [wK_fn]
  try rw [wOp_fn]
  try rw [wOq_fn]
  try rw [wN_fn]
  try rw [wRt_fn]
  try rw [wIf_fn]
  try rw [wGd_fn]
  try rw [wHr_fn]
  exact vS_ret_bin
theorem wO_cmp {o : Cp} {a b : IE} {q : Ct OV} : @wO C (.cmp o a b) st q x = @wE C (.cmp o a b) st ⟨fun r st => q.k (.v r.w) st⟩ x := by
  try rw [wOs_fn]
  try rw [wSs_fn]
  try rw [wFor_fn]
  try rw [wWhl_fn]
  try rw [wCmp_fn]
  try rw [wE_fn]
  try rw [wT_fn]
  try rw [wO_fn]
  try rw [wA_fn]
  try rw [wI_fn]
  try rw [wS_fn]
  try rw [wK_fn]
  try rw [wOp_fn]
  try rw [wOq_fn]
  try rw [wN_fn]
  try rw [wRt_fn]
  try rw [wIf_fn]
  try rw [wGd_fn]
  try rw [wHr_fn]
  exact vO_cmp
theorem wT_cmp {o : Cp} {a b : IE} {q : Ct Bool} : @wT C (.cmp o a b) st q x = @wE C (.cmp o a b) st ⟨fun r st => @wOp _ (truth (vw st.sto r.w)) st q⟩ x := by
  try rw [wOs_fn]
  try rw [wSs_fn]
  try rw [wFor_fn]
  try rw [wWhl_fn]
  try rw [wCmp_fn]
  try rw [wE_fn]
  try rw [wT_fn]
  try rw [wO_fn]
  try rw [wA_fn]
  try rw [wI_fn]
  try rw [wS_fn]
  try rw [wK_fn]
  try rw [wOp_fn]
  try rw [wOq_fn]
  try rw [wN_fn]
  try rw [wRt_fn]
  try rw [wIf_fn]
  try rw [wGd_fn]
  try rw [wHr_fn]
  exact vT_cmp
theorem wS_ret_cmp {o : Cp} {a b : IE} : @wS C (.ret (.cmp o a b)) st Q = @wE C (.cmp o a b) st ⟨fun r st => Q.rt r st.sto⟩ ⟨Q.ex⟩ := by
  try rw [wOs_fn]
  try rw [wSs_fn]
  try rw [wFor_fn]
  try rw [wWhl_fn]
  try rw [wCmp_fn]
  try rw [wE_fn]
  try rw [wT_fn]
  try rw [wO_fn]
  try rw [wA_fn]
  try rw [wI_fn]
  try rw [wS_fn]
  try rw [wK_fn]
  try rw [wOp_fn]
  try rw [wOq_fn]
  try rw [wN_fn]
  try rw [wRt_fn]
  try rw [wIf_fn]
  try rw [wGd_fn]
  try rw [wHr_fn]
  exact vS_ret_cmp
theorem wO_andE {a b : IE} {q : Ct OV} : @wO C (.andE a b) st q x = @wE C (.andE a b) st ⟨fun r st => q.k (.v r.w) st⟩ x := by
  try rw [wOs_fn]
  try rw [wSs_fn]
  try rw [wFor_fn]
  try rw [wWhl_fn]
  try rw [wCmp_fn]
  try rw [wE_fn]
  try rw [wT_fn]
  try rw [wO_fn]
  try rw [wA_fn]
  try rw [wI_fn]
  try rw [wS_fn]
  try rw [wK_fn]
  try rw [wOp_fn]
  try rw [wOq_fn]
  try rw [wN_fn]
  try rw [wRt_fn]
  try rw [wIf_fn]
  try rw [wGd_fn]
  try rw [wHr_fn]
  exact vO_andE
theorem wS_ret_andE {a b : IE} : @wS C (.ret (.andE a b)) st Q = @wE C (.andE a b) st ⟨fun r st => Q.rt r st.sto⟩ ⟨Q.ex⟩ := by
  try rw [wOs_fn]
  try rw [wSs_fn]
  try rw [wFor_fn]
  try rw [wWhl_fn]
  try rw [wCmp_fn]
  try rw [wE_fn]
  try rw [wT_fn]
  try rw [wO_fn]
  try rw [wA_fn]
  try rw [wI_fn]
  try rw [wS_fn]
  try rw [wK_fn]
  try rw [wOp_fn]
  try rw [wOq_fn]
  try rw [wN_fn]
  try rw [wRt_fn]
  try rw [wIf_fn]
  try rw [wGd_fn]
  try rw [wHr_fn]
  exact vS_ret_andE
theorem wO_orE {a b : IE} {q : Ct OV} : @wO C (.orE a b) st q x = @wE C (.orE a b) st ⟨fun r st => q.k (.v r.w) st⟩ x := by
  try rw [wOs_fn]
  try rw [wSs_fn]
  try rw [wFor_fn]
  try rw [wWhl_fn]
  try rw [wCmp_fn]
  try rw [wE_fn]
  try rw [wT_fn]
  try rw [wO_fn]
  try rw [wA_fn]
  try rw [wI_fn]
  try rw [wS_fn]
  try rw [wK_fn]
  try rw [wOp_fn]
  try rw [wOq_fn]
  try rw [wN_fn]
  try rw [wRt_fn]
  try rw [wIf_fn]
  try rw [wGd_fn]
  try rw [wHr_fn]
  exact vO_orE
theorem wS_ret_orE {a b : IE} : @wS C (.ret (.orE a b)) st Q = @wE C (.orE a b) st ⟨fun r st => Q.rt r st.sto⟩ ⟨Q.ex⟩ := by
  try rw [wOs_fn]
  try rw [wSs_fn]
  try rw [wFor_fn]
  try rw [wWhl_fn]
  try rw [wCmp_fn]
  try rw [wE_fn]
  try rw [wT_fn]
  try rw [wO_fn]
  try rw [wA_fn]
  try rw [wI_fn]
  try rw [wS_fn]
  try rw [wK_fn]
  try rw [wOp_fn]
  try rw [wOq_fn]
  try rw [wN_fn]
  try rw [wRt_fn]
  try rw [wIf_fn]
  try rw [wGd_fn]
  try rw [wHr_fn]
  exact vS_ret_orE
theorem wO_notE {a : IE} {q : Ct OV} : @wO C (.notE a) st q x = @wE C (.notE a) st ⟨fun r st => q.k (.v r.w) st⟩ x := by
  try rw [wOs_fn]
  try rw [wSs_fn]
  try rw [wFor_fn]
  try rw [wWhl_fn]
  try rw [wCmp_fn]
  try rw [wE_fn]
  try rw [wT_fn]
  try rw [wO_fn]
  try rw [wA_fn]
  try rw [wI_fn]
  try rw [wS_fn]
  try rw [wK_fn]
  try rw [wOp_fn]
  try rw [wOq_fn]
  try rw [wN_fn]
  try rw [wRt_fn]
  try rw [wIf_fn]
  try rw [wGd_fn]
  try rw [wHr_fn]
  exact vO_notE
theorem wS_ret_notE {a : IE} : @wS C (.ret (.notE a)) st Q = @wE C (.notE a) st ⟨fun r st => Q.rt r st.sto⟩ ⟨Q.ex⟩ := by
  try rw [wOs_fn]
  try rw [wSs_fn]
  try rw [wFor_fn]
  try rw [wWhl_fn]
  try rw [wCmp_fn]
  try rw [wE_fn]
  try rw [wT_fn]
  try rw [wO_fn]
  try rw [wA_fn]
  try rw [wI_fn]
  try rw [wS_fn]
  try rw [wK_fn]
  try rw [wOp_fn]
  try rw [wOq_fn]
  try rw [wN_fn]
  try rw [wRt_fn]
  try rw [wIf_fn]
  try rw [wGd_fn]
  try rw [wHr_fn]
  exact vS_ret_notE
theorem wO_ifE {c a b : IE} {q : Ct OV} : @wO C (.ifE c a b) st q x = @wE C (.ifE c a b) st ⟨fun r st => q.k (.v r.w) st⟩ x := by
  try rw [wOs_fn]
  try rw [wSs_fn]
  try rw [wFor_fn]
  try rw [wWhl_fn]
  try rw [wCmp_fn]
  try rw [wE_fn]
  try rw [wT_fn]
  try rw [wO_fn]
  try rw [wA_fn]
  try rw [wI_fn]
  try rw [wS_fn]
  try rw [wK_fn]
  try rw [wOp_fn]
  try rw [wOq_fn]
  try rw [wN_fn]
  try rw [wRt_fn]
  try rw [wIf_fn]
  try rw [wGd_fn]
  try rw [wHr_fn]
  exact vO_ifE
theorem wT_ifE {c a b : IE} {q : Ct Bool} : @wT C (.ifE c a b) st q x = @wE C (.ifE c a b) st ⟨fun r st => @wOp _ (truth (vw st.sto r.w)) st q⟩ x := by
  try rw [wOs_fn]
  try rw [wSs_fn]
  try rw [wFor_fn]
  try rw [wWhl_fn]
  try rw [wCmp_fn]
  try rw [wE_fn]
  try rw [wT_fn]
  try rw [wO_fn]
  try rw [wA_fn]
  try rw [wI_fn]
  try rw [wS_fn]
  try rw [wK_fn]
  try rw [wOp_fn]
  try rw [wOq_fn]
  try rw [wN_fn]
  try rw [wRt_fn]
  try rw [wIf_fn]
  try rw [wGd_fn]
  try rw [wHr_fn]
  exact vT_ifE
theorem wS_ret_ifE {c a b : IE} : @wS C (.ret (.ifE c a b)) st Q = @wE C (.ifE c a b) st ⟨fun r st => Q.rt r st.sto⟩ ⟨Q.ex⟩ := by
  try rw [wOs_fn]
  try rw [wSs_fn]
  try rw [wFor_fn]
  try rw [wWhl_fn]
  try rw [wCmp_fn]
  try rw [wE_fn]
  try rw [wT_fn]
  try rw [wO_fn]
  try rw [wA_fn]
  try rw [wI_fn]
  try rw [wS_fn]
  try rw [wK_fn]
  try rw [wOp_fn]
  try rw [wOq_fn]
  try rw [wN_fn]
  try rw [wRt_fn]
  try rw [wIf_fn]
  try rw [wGd_fn]
  try rw [wHr_fn]
  exact vS_ret_ifE
theorem wO_idx {a b : IE} {q : Ct OV} : @wO C (.idx a b) st q x = @wE C (.idx a b) st ⟨fun r st => q.k (.v r.w) st⟩ x := by
  try rw [wOs_fn]
  try rw [wSs_fn]
  try rw [wFor_fn]
  try rw [wWhl_fn]
  try rw [wCmp_fn]
  try rw [wE_fn]
  try rw [wT_fn]
  try rw [wO_fn]
  try rw [wA_fn]
  try rw [wI_fn]
  try rw [wS_fn]
  try rw [wK_fn]
  try rw [wOp_fn]
  try rw [wOq_fn]
  try rw [wN_fn]
  try rw [wRt_fn]
  try rw [wIf_fn]
  try rw [wGd_fn]
  try rw [wHr_fn]
  exact vO_idx
theorem wT_idx {a b : IE} {q : Ct Bool} : @wT C (.idx a b) st q x = @wE C (.idx a b) st ⟨fun r st => @wOp _ (truth (vw st.sto r.w)) st q⟩ x := by
  try rw [wOs_fn]
  try rw [wSs_fn]
  try rw [wFor_fn]
  try rw [wWhl_fn]
  try rw [wCmp_fn]
  try rw [wE_fn]
  try rw [wT_fn]
  try rw [wO_fn]
  try rw [wA_fn]
  try rw [wI_fn]
  try rw [wS_fn]
  try rw [wK_fn]
  try rw [wOp_fn]
  try rw [wOq_fn]
  try rw [wN_fn]
  try rw [wRt_fn]
  try rw [wIf_fn]
  try rw [wGd_fn]
  try rw [wHr_fn]
  exact vT_idx
theorem wS_ret_idx {a b : IE} : @wS C (.ret (.idx a b)) st Q = @wE C (.idx a b) st ⟨fun r st => Q.rt r st.sto⟩ ⟨Q.ex⟩ := by
  try rw [wOs_fn]
  try rw [wSs_fn]
  try rw [wFor_fn]
  try rw [wWhl_fn]
  try rw [wCmp_fn]
  try rw [wE_fn]
  try rw [wT_fn]
  try rw [wO_fn]
  try rw [wA_fn]
  try rw [wI_fn]
  try rw [wS_fn]
  try rw [wK_fn]
  try rw [wOp_fn]
  try rw [wOq_fn]
  try rw [wN_fn]
  try rw [wRt_fn]
  try rw [wIf_fn]
  try rw [wGd_fn]
  try rw [wHr_fn]
  exact vS_ret_idx
theorem wO_sfrom {a b : IE} {q : Ct OV} : @wO C (.sfrom a b) st q x = @wE C (.sfrom a b) st ⟨fun r st => q.k (.v r.w) st⟩ x := by
  try rw [wOs_fn]
  try rw [wSs_fn]
  try rw [wFor_fn]
  try rw [wWhl_fn]
  try rw [wCmp_fn]
  try rw [wE_fn]
  try rw [wT_fn]
  try rw [wO_fn]
  try rw [wA_fn]
  try rw [wI_fn]
  try rw [wS_fn]
  try rw [wK_fn]
  try rw [wOp_fn]
  try rw [wOq_fn]
  try rw [wN_fn]
  try rw [wRt_fn]
  try rw [wIf_fn]
  try rw [wGd_fn]
  try rw [wHr_fn]
  exact vO_sfrom
theorem wT_sfrom {a b : IE} {q : Ct Bool} : @wT C (.sfrom a b) st q x = @wE C (.sfrom a b) st ⟨fun r st => @wOp _ (truth (vw st.sto r.w)) st q⟩ x := by
  try rw [wOs_fn]
  try rw [wSs_fn]
  try rw [wFor_fn]
  try rw [wWhl_fn]
  try rw [wCmp_fn]
  try rw [wE_fn]
  try rw [wT_fn]
  try rw [wO_fn]
  try rw [wA_fn]
  try rw [wI_fn]
  try rw [wS_fn]
  try rw [wK_fn]
  try rw [wOp_fn]
  try rw [wOq_fn]
  try rw [wN_fn]
  try rw [wRt_fn]
  try rw [wIf_fn]
  try rw [wGd_fn]
  try rw [wHr_fn]
  exact vT_sfrom
theorem wS_ret_sfrom {a b : IE} : @wS C (.ret (.sfrom a b)) st Q = @wE C (.sfrom a b) st ⟨fun r st => Q.rt r st.sto⟩ ⟨Q.ex⟩ := by
  try rw [wOs_fn]
  try rw [wSs_fn]
  try rw [wFor_fn]
  try rw [wWhl_fn]
  try rw [wCmp_fn]
  try rw [wE_fn]
  try rw [wT_fn]
  try rw [wO_fn]
  try rw [wA_fn]
  try rw [wI_fn]
  try rw [wS_fn]
  try rw [wK_fn]
  try rw [wOp_fn]
  try rw [wOq_fn]
  try rw [wN_fn]
  try rw [wRt_fn]
  try rw [wIf_fn]
  try rw [wGd_fn]
  try rw [wHr_fn]
  exact vS_ret_sfrom
theorem wO_upto {a b : IE} {q : Ct OV} : @wO C (.upto a b) st q x = @wE C (.upto a b) st ⟨fun r st => q.k (.v r.w) st⟩ x := by
  try rw [wOs_fn]
  try rw [wSs_fn]
  try rw [wFor_fn]
  try rw [wWhl_fn]
  try rw [wCmp_fn]
  try rw [wE_fn]
  try rw [wT_fn]
  try rw [wO_fn]
  try rw [wA_fn]
  try rw [wI_fn]
  try rw [wS_fn]
  try rw [wK_fn]
  try rw [wOp_fn]
  try rw [wOq_fn]
  try rw [wN_fn]
  try rw [wRt_fn]
  try rw [wIf_fn]
  try rw [wGd_fn]
  try rw [wHr_fn]
  exact vO_upto
theorem wT_upto {a b : IE} {q : Ct Bool} : @wT C (.upto a b) st q x = @wE C (.upto a b) st ⟨fun r st => @wOp _ (truth (vw st.sto r.w)) st q⟩ x := by
  try rw [wOs_fn]
  try rw [wSs_fn]
  try rw [wFor_fn]
  try rw [wWhl_fn]
  try rw [wCmp_fn]
  try rw [wE_fn]
  try rw [wT_fn]
  try rw [wO_fn]
  try rw [wA_fn]
  try rw [wI_fn]
  try rw [wS_fn]
  try rw [wK_fn]
  try rw [wOp_fn]
  try rw [wOq_fn]
  try rw [wN_fn]
  try rw [wRt_fn]
  try rw [wIf_fn]
  try rw [wGd_fn]
  try rw [wHr_fn]
  exact vT_upto
theorem wS_ret_upto {a b : IE} : @wS C (.ret (.upto a b)) st Q = @wE C (.upto a b) st ⟨fun r st => Q.rt r st.sto⟩ ⟨Q.ex⟩ := by
  try rw [wOs_fn]
  try rw [wSs_fn]
  try rw [wFor_fn]
  try rw [wWhl_fn]
  try rw [wCmp_fn]
  try rw [wE_fn]
  try rw [wT_fn]
  try rw [wO_fn]
  try rw [wA_fn]
  try rw [wI_fn]
  try rw [wS_fn]
  try rw [wK_fn]
  try rw [wOp_fn]
  try rw [wOq_fn]
  try rw [wN_fn]
  try rw [wRt_fn]
  try rw [wIf_fn]
  try rw [wGd_fn]
  try rw [wHr_fn]
  exact vS_ret_upto
theorem wO_cut {a b c : IE} {q : Ct OV} : @wO C (.cut a b c) st q x = @wE C (.cut a b c) st ⟨fun r st => q.k (.v r.w) st⟩ x := by
  try rw [wOs_fn]
  try rw [wSs_fn]
  try rw [wFor_fn]
  try rw [wWhl_fn]
  try rw [wCmp_fn]
  try rw [wE_fn]
  try rw [wT_fn]
  try rw [wO_fn]
  try rw [wA_fn]
  try rw [wI_fn]
  try rw [wS_fn]
  try rw [wK_fn]
  try rw [wOp_fn]
  try rw [wOq_fn]
  try rw [wN_fn]
  try rw [wRt_fn]
  try rw [wIf_fn]
  try rw [wGd_fn]
  try rw [wHr_fn]
  exact vO_cut
theorem wT_cut {a b c : IE} {q : Ct Bool} : @wT C (.cut a b c) st q x = @wE C (.cut a b c) st ⟨fun r st => @wOp _ (truth (vw st.sto r.w)) st q⟩ x := by
  try rw [wOs_fn]
  try rw [wSs_fn]
  try rw [wFor_fn]
  try rw [wWhl_fn]
  try rw [wCmp_fn]
  try rw [wE_fn]
  try rw [wT_fn]
  try rw [wO_fn]
  try rw [wA_fn]
  try rw [wI_fn]
  try rw [wS_fn]
  try rw [wK_fn]
  try rw [wOp_fn]
  try rw [wOq_fn]
  try rw [wN_fn]
  try rw [wRt_fn]
  try rw [wIf_fn]
  try rw [wGd_fn]
  try rw [wHr_fn]
  exact vT_cut
theorem wS_ret_cut {a b c : IE} : @wS C (.ret (.cut a b c)) st Q = @wE C (.cut a b c) st ⟨fun r st => Q.rt r st.sto⟩ ⟨Q.ex⟩ := by
  try rw [wOs_fn]
  try rw [wSs_fn]
  try rw [wFor_fn]
  try rw [wWhl_fn]
  try rw [wCmp_fn]
  try rw [wE_fn]
  try rw [wT_fn]
  try rw [wO_fn]
  try rw [wA_fn]
  try rw [wI_fn]
  try rw [wS_fn]
  try rw [wK_fn]
  try rw [wOp_fn]
  try rw [wOq_fn]
  try rw [wN_fn]
  try rw [wRt_fn]
  try rw [wIf_fn]
  try rw [wGd_fn]
  try rw [wHr_fn]
  exact vS_ret_cut
theorem wO_rev {a : IE} {q : Ct OV} : @wO C (.rev a) st q x = @wE C (.rev a) st ⟨fun r st => q.k (.v r.w) st⟩ x := by
  try rw [wOs_fn]
  try rw [wSs_fn]
  try rw [wFor_fn]
  try rw [wWhl_fn]
  try rw [wCmp_fn]
  try rw [wE_fn]
  try rw [wT_fn]
  try rw [wO_fn]
  try rw [wA_fn]
  try rw [wI_fn]
  try rw [wS_fn]
  try rw [wK_fn]
  try rw [wOp_fn]
  try rw [wOq_fn]
  try rw [wN_fn]
  try rw [wRt_fn]
  try rw [wIf_fn]
  try rw [wGd_fn]
  try rw [wHr_fn]
  exact vO_rev
theorem wT_rev {a : IE} {q : Ct Bool} : @wT C (.rev a) st q x = @wE C (.rev a) st ⟨fun r st => @wOp _ (truth (vw st.sto r.w)) st q⟩ x := by
  try rw [wOs_fn]
  try rw [wSs_fn]
  try rw [wFor_fn]
  try rw [wWhl_fn]
  try rw [wCmp_fn]
  try rw [wE_fn]
  try rw [wT_fn]
  try rw [wO_fn]
  try rw [wA_fn]
  try rw [wI_fn]
  try rw [wS_fn]
  try rw [wK_fn]
  try rw [wOp_fn]
  try rw [wOq_fn]
  try rw [wN_fn]
  try rw [wRt_fn]
  try rw [wIf_fn]
  try rw [wGd_fn]
  try rw [wHr_fn]
  exact vT_rev
theorem wS_ret_rev {a : IE} : @wS C (.ret (.rev a)) st Q = @wE C (.rev a) st ⟨fun r st => Q.rt r st.sto⟩ ⟨Q.ex⟩ := by
  try rw [wOs_fn]
  try rw [wSs_fn]
  try rw [wFor_fn]
  try rw [wWhl_fn]
  try rw [wCmp_fn]
  try rw [wE_fn]
  try rw [wT_fn]
  try rw [wO_fn]
  try rw [wA_fn]
  try rw [wI_fn]
  try rw [wS_fn]
  try rw [wK_fn]
  try rw [wOp_fn]
  try rw [wOq_fn]
  try rw [wN_fn]
  try rw [wRt_fn]
  try rw [wIf_fn]
  try rw [wGd_fn]
  try rw [wHr_fn]
  exact vS_ret_rev
theorem wO_call {f : Nat} {a : IA} {q : Ct OV} : @wO C (.call f a) st q x = @wE C (.call f a) st ⟨fun r st => q.k (.v r.w) st⟩ x := by
  try rw [wOs_fn]
  try rw [wSs_fn]
  try rw [wFor_fn]
  try rw [wWhl_fn]
  try rw [wCmp_fn]
  try rw [wE_fn]
  try rw [wT_fn]
  try rw [wO_fn]
  try rw [wA_fn]
  try rw [wI_fn]
  try rw [wS_fn]
  try rw [wK_fn]
  try rw [wOp_fn]
  try rw [wOq_fn]
  try rw [wN_fn]
  try rw [wRt_fn]
  try rw [wIf_fn]
  try rw [wGd_fn]
  try rw [wHr_fn]
  exact vO_call
theorem wT_call {f : Nat} {a : IA} {q : Ct Bool} : @wT C (.call f a) st q x = @wE C (.call f a) st ⟨fun r st => @wOp _ (truth (vw st.sto r.w)) st q⟩ x := by
  try rw [wOs_fn]
  try rw [wSs_fn]
  try rw [wFor_fn]
  try rw [wWhl_fn]
  try rw [wCmp_fn]
  try rw [wE_fn]
  try rw [wT_fn]
  try rw [wO_fn]
  try rw [wA_fn]
  try rw [wI_fn]
  try rw [wS_fn]
  try rw [wK_fn]
  try rw [wOp_fn]
  try rw [wOq_fn]
  try rw [wN_fn]
  try rw [wRt_fn]
  try rw [wIf_fn]
  try rw [wGd_fn]
  try rw [wHr_fn]
  exact vT_call
theorem wS_ret_call {f : Nat} {a : IA} : @wS C (.ret (.call f a)) st Q = @wE C (.call f a) st ⟨fun r st => Q.rt r st.sto⟩ ⟨Q.ex⟩ := by
  try rw [wOs_fn]
  try rw [wSs_fn]
  try rw [wFor_fn]
  try rw [wWhl_fn]
  try rw [wCmp_fn]
  try rw [wE_fn]
  try rw [wT_fn]
  try rw [wO_fn]
  try rw [wA_fn]
  try rw [wI_fn]
  try rw [wS_fn]
  try rw [wK_fn]
  try rw [wOp_fn]
  try rw [wOq_fn]
  try rw [wN_fn]
  try rw [wRt_fn]
  try rw [wIf_fn]
  try rw [wGd_fn]
  try rw [wHr_fn]
  exact vS_ret_call
theorem wO_blt {f : Bf} {a : IA} {q : Ct OV} : @wO C (.blt f a) st q x = @wE C (.blt f a) st ⟨fun r st => q.k (.v r.w) st⟩ x := by
  try rw [wOs_fn]
  try rw [wSs_fn]
  try rw [wFor_fn]
  try rw [wWhl_fn]
  try rw [wCmp_fn]
  try rw [wE_fn]
  try rw [wT_fn]
  try rw [wO_fn]
  try rw [wA_fn]
  try rw [wI_fn]
  try rw [wS_fn]
  try rw [wK_fn]
  try rw [wOp_fn]
  try rw [wOq_fn]
  try rw [wN_fn]
  try rw [wRt_fn]
  try rw [wIf_fn]
  try rw [wGd_fn]
  try rw [wHr_fn]
  exact vO_blt
theorem wT_blt {f : Bf} {a : IA} {q : Ct Bool} : @wT C (.blt f a) st q x = @wE C (.blt f a) st ⟨fun r st => @wOp _ (truth (vw st.sto r.w)) st q⟩ x := by
  try rw [wOs_fn]
  try rw [wSs_fn]
  try rw [wFor_fn]
  try rw [wWhl_fn]
  try rw [wCmp_fn]
  try rw [wE_fn]
  try rw [wT_fn]
  try rw [wO_fn]
  try rw [wA_fn]
  try rw [wI_fn]
  try rw [wS_fn]
  try rw [wK_fn]
  try rw [wOp_fn]
  try rw [wOq_fn]
  try rw [wN_fn]
  try rw [wRt_fn]
  try rw [wIf_fn]
  try rw [wGd_fn]
  try rw [wHr_fn]
  exact vT_blt
theorem wS_ret_blt {f : Bf} {a : IA} : @wS C (.ret (.blt f a)) st Q = @wE C (.blt f a) st ⟨fun r st => Q.rt r st.sto⟩ ⟨Q.ex⟩ := by
  try rw [wOs_fn]
  try rw [wSs_fn]
  try rw [wFor_fn]
  try rw [wWhl_fn]
  try rw [wCmp_fn]
  try rw [wE_fn]
  try rw [wT_fn]
  try rw [wO_fn]
  try rw [wA_fn]
  try rw [wI_fn]
  try rw [wS_fn]
  try rw [wK_fn]
  try rw [wOp_fn]
  try rw [wOq_fn]
  try rw [wN_fn]
  try rw [wRt_fn]
  try rw [wIf_fn]
  try rw [wGd_fn]
  try rw [wHr_fn]
  exact vS_ret_blt
theorem wO_pop {i : Nat} {e : IE} {q : Ct OV} : @wO C (.pop i e) st q x = @wE C (.pop i e) st ⟨fun r st => q.k (.v r.w) st⟩ x := by
  try rw [wOs_fn]
  try rw [wSs_fn]
  try rw [wFor_fn]
  try rw [wWhl_fn]
  try rw [wCmp_fn]
  try rw [wE_fn]
  try rw [wT_fn]
  try rw [wO_fn]
  try rw [wA_fn]
  try rw [wI_fn]
  try rw [wS_fn]
  try rw [wK_fn]
  try rw [wOp_fn]
  try rw [wOq_fn]
  try rw [wN_fn]
  try rw [wRt_fn]
  try rw [wIf_fn]
  try rw [wGd_fn]
  try rw [wHr_fn]
  exact vO_pop
theorem wT_pop {i : Nat} {e : IE} {q : Ct Bool} : @wT C (.pop i e) st q x = @wE C (.pop i e) st ⟨fun r st => @wOp _ (truth (vw st.sto r.w)) st q⟩ x := by
  try rw [wOs_fn]
  try rw [wSs_fn]
  try rw [wFor_fn]
  try rw [wWhl_fn]
  try rw [wCmp_fn]
  try rw [wE_fn]
  try rw [wT_fn]
  try rw [wO_fn]
  try rw [wA_fn]
  try rw [wI_fn]
  try rw [wS_fn]
  try rw [wK_fn]
  try rw [wOp_fn]
  try rw [wOq_fn]
  try rw [wN_fn]
  try rw [wRt_fn]
  try rw [wIf_fn]
  try rw [wGd_fn]
  try rw [wHr_fn]
  exact vT_pop
theorem wS_ret_pop {i : Nat} {e : IE} : @wS C (.ret (.pop i e)) st Q = @wE C (.pop i e) st ⟨fun r st => Q.rt r st.sto⟩ ⟨Q.ex⟩ := by
  try rw [wOs_fn]
  try rw [wSs_fn]
  try rw [wFor_fn]
  try rw [wWhl_fn]
  try rw [wCmp_fn]
  try rw [wE_fn]
  try rw [wT_fn]
  try rw [wO_fn]
  try rw [wA_fn]
  try rw [wI_fn]
  try rw [wS_fn]
  try rw [wK_fn]
  try rw [wOp_fn]
  try rw [wOq_fn]
  try rw [wN_fn]
  try rw [wRt_fn]
  try rw [wIf_fn]
  try rw [wGd_fn]
  try rw [wHr_fn]
  exact vS_ret_pop
theorem wO_setLen {e : IE} {q : Ct OV} : @wO C (.setLen e) st q x = @wE C (.setLen e) st ⟨fun r st => q.k (.v r.w) st⟩ x := by
  try rw [wOs_fn]
  try rw [wSs_fn]
  try rw [wFor_fn]
  try rw [wWhl_fn]
  try rw [wCmp_fn]
  try rw [wE_fn]
  try rw [wT_fn]
  try rw [wO_fn]
  try rw [wA_fn]
  try rw [wI_fn]
  try rw [wS_fn]
  try rw [wK_fn]
  try rw [wOp_fn]
  try rw [wOq_fn]
  try rw [wN_fn]
  try rw [wRt_fn]
  try rw [wIf_fn]
  try rw [wGd_fn]
  try rw [wHr_fn]
  exact vO_setLen
theorem wT_setLen {e : IE} {q : Ct Bool} : @wT C (.setLen e) st q x = @wE C (.setLen e) st ⟨fun r st => @wOp _ (truth (vw st.sto r.w)) st q⟩ x := by
  try rw [wOs_fn]
  try rw [wSs_fn]
  try rw [wFor_fn]
  try rw [wWhl_fn]
  try rw [wCmp_fn]
  try rw [wE_fn]
  try rw [wT_fn]
  try rw [wO_fn]
  try rw [wA_fn]
  try rw [wI_fn]
  try rw [wS_fn]
  try rw [wK_fn]
  try rw [wOp_fn]
  try rw [wOq_fn]
  try rw [wN_fn]
  try rw [wRt_fn]
  try rw [wIf_fn]
  try rw [wGd_fn]
  try rw [wHr_fn]
  exact vT_setLen
theorem wS_ret_setLen {e : IE} : @wS C (.ret (.setLen e)) st Q = @wE C (.setLen e) st ⟨fun r st => Q.rt r st.sto⟩ ⟨Q.ex⟩ := by
  try rw [wOs_fn]
  try rw [wSs_fn]
  try rw [wFor_fn]
  try rw [wWhl_fn]
  try rw [wCmp_fn]
  try rw [wE_fn]
  try rw [wT_fn]
  try rw [wO_fn]
  try rw [wA_fn]
  try rw [wI_fn]
  try rw [wS_fn]
  try rw [wK_fn]
  try rw [wOp_fn]
  try rw [wOq_fn]
  try rw [wN_fn]
  try rw [wRt_fn]
  try rw [wIf_fn]
  try rw [wGd_fn]
  try rw [wHr_fn]
  exact vS_ret_setLen
theorem wO_isT {e : IE} {t : Tn} {q : Ct OV} : @wO C (.isT e t) st q x = @wE C (.isT e t) st ⟨fun r st => q.k (.v r.w) st⟩ x := by
  try rw [wOs_fn]
  try rw [wSs_fn]
  try rw [wFor_fn]
  try rw [wWhl_fn]
  try rw [wCmp_fn]
  try rw [wE_fn]
  try rw [wT_fn]
  try rw [wO_fn]
  try rw [wA_fn]
  try rw [wI_fn]
  try rw [wS_fn]
  try rw [wK_fn]
  try rw [wOp_fn]
  try rw [wOq_fn]
  try rw [wN_fn]
  try rw [wRt_fn]
  try rw [wIf_fn]
  try rw [wGd_fn]
  try rw [wHr_fn]
  exact vO_isT
theorem wT_isT {e : IE} {t : Tn} {q : Ct Bool} : @wT C (.isT e t) st q x = @wE C (.isT e t) st ⟨fun r st => @wOp _ (truth (vw st.sto r.w)) st q⟩ x := by
  try rw [wOs_fn]
  try rw [wSs_fn]
  try rw [wFor_fn]
  try rw [wWhl_fn]
  try rw [wCmp_fn]
  try rw [wE_fn]
  try rw [wT_fn]
  try rw [wO_fn]
  try rw [wA_fn]
  try rw [wI_fn]
  try rw [wS_fn]
  try rw [wK_fn]
  try rw [wOp_fn]
  try rw [wOq_fn]
  try rw [wN_fn]
  try rw [wRt_fn]
  try rw [wIf_fn]
  try rw [wGd_fn]
  try rw [wHr_fn]
  exact vT_isT
theorem wS_ret_isT {e : IE} {t : Tn} : @wS C (.ret (.isT e t)) st Q = @wE C (.isT e t) st ⟨fun r st => Q.rt r st.sto⟩ ⟨Q.ex⟩ := by
  try rw [wOs_fn]
  try rw [wSs_fn]
  try rw [wFor_fn]
  try rw [wWhl_fn]
  try rw [wCmp_fn]
  try rw [wE_fn]
  try rw [wT_fn]
  try rw [wO_fn]
  try rw [wA_fn]
  try rw [wI_fn]
  try rw [wS_fn]
  try rw [wK_fn]
  try rw [wOp_fn]
  try rw [wOq_fn]
  try rw [wN_fn]
  try rw [wRt_fn]
  try rw [wIf_fn]
  try rw [wGd_fn]
  try rw [wHr_fn]
  exact vS_ret_isT
theorem wO_comp {elt : IE} {g : TgI} {src : SI} {cond : IE} {has : Bool} {q : Ct OV} : @wO C (.comp elt g src cond has) st q x = @wE C (.comp elt g src cond has) st ⟨fun r st => q.k (.v r.w) st⟩ x := by
  try rw [wOs_fn]
  try rw [wSs_fn]
  try rw [wFor_fn]
  try rw [wWhl_fn]
  try rw [wCmp_fn]
  try rw [wE_fn]
  try rw [wT_fn]
  try rw [wO_fn]
  try rw [wA_fn]
  try rw [wI_fn]
  try rw [wS_fn]
  try rw [wK_fn]
  try rw [wOp_fn]
  try rw [wOq_fn]
  try rw [wN_fn]
  try rw [wRt_fn]
  try rw [wIf_fn]
  try rw [wGd_fn]
  try rw [wHr_fn]
  exact vO_comp
theorem wT_comp {elt : IE} {g : TgI} {src : SI} {cond : IE} {has : Bool} {q : Ct Bool} : @wT C (.comp elt g src cond has) st q x = @wE C (.comp elt g src cond has) st ⟨fun r st => @wOp _ (truth (vw st.sto r.w)) st q⟩ x := by
  try rw [wOs_fn]
  try rw [wSs_fn]
  try rw [wFor_fn]
  try rw [wWhl_fn]
  try rw [wCmp_fn]
  try rw [wE_fn]
  try rw [wT_fn]
  try rw [wO_fn]
  try rw [wA_fn]
  try rw [wI_fn]
  try rw [wS_fn]
  try rw [wK_fn]
  try rw [wOp_fn]
  try rw [wOq_fn]
  try rw [wN_fn]
  try rw [wRt_fn]
  try rw [wIf_fn]
  try rw [wGd_fn]
  try rw [wHr_fn]
  exact vT_comp
theorem wS_ret_comp {elt : IE} {g : TgI} {src : SI} {cond : IE} {has : Bool} : @wS C (.ret (.comp elt g src cond has)) st Q = @wE C (.comp elt g src cond has) st ⟨fun r st => Q.rt r st.sto⟩ ⟨Q.ex⟩ := by
  try rw [wOs_fn]
  try rw [wSs_fn]
  try rw [wFor_fn]
  try rw [wWhl_fn]
  try rw [wCmp_fn]
  try rw [wE_fn]
  try rw [wT_fn]
  try rw [wO_fn]
  try rw [wA_fn]
  try rw [wI_fn]
  try rw [wS_fn]
  try rw [wK_fn]
  try rw [wOp_fn]
  try rw [wOq_fn]
  try rw [wN_fn]
  try rw [wRt_fn]
  try rw [wIf_fn]
  try rw [wGd_fn]
  try rw [wHr_fn]
  exact vS_ret_comp
theorem wO_nref {e : IE} {q : Ct OV} : @wO C (.nref e) st q x = @wE C (.nref e) st ⟨fun r st => q.k (.v r.w) st⟩ x := by
  try rw [wOs_fn]
  try rw [wSs_fn]
  try rw [wFor_fn]
  try rw [wWhl_fn]
  try rw [wCmp_fn]
  try rw [wE_fn]
  try rw [wT_fn]
  try rw [wO_fn]
  try rw [wA_fn]
  try rw [wI_fn]
  try rw [wS_fn]
  try rw [wK_fn]
  try rw [wOp_fn]
  try rw [wOq_fn]
  try rw [wN_fn]
  try rw [wRt_fn]
  try rw [wIf_fn]
  try rw [wGd_fn]
  try rw [wHr_fn]
  exact vO_nref
theorem wT_nref {e : IE} {q : Ct Bool} : @wT C (.nref e) st q x = @wE C (.nref e) st ⟨fun r st => @wOp _ (truth (vw st.sto r.w)) st q⟩ x := by
  try rw [wOs_fn]
  try rw [wSs_fn]
  try rw [wFor_fn]
  try rw [wWhl_fn]
  try rw [wCmp_fn]
  try rw [wE_fn]
  try rw [wT_fn]
  try rw [wO_fn]
  try rw [wA_fn]
  try rw [wI_fn]
  try rw [wS_fn]
  try rw [wK_fn]
  try rw [wOp_fn]
  try rw [wOq_fn]
  try rw [wN_fn]
  try rw [wRt_fn]
  try rw [wIf_fn]
  try rw [wGd_fn]
  try rw [wHr_fn]
  exact vT_nref
theorem wS_ret_nref {e : IE} : @wS C (.ret (.nref e)) st Q = @wE C (.nref e) st ⟨fun r st => Q.rt r st.sto⟩ ⟨Q.ex⟩ := by
  try rw [wOs_fn]
  try rw [wSs_fn]
  try rw [wFor_fn]
  try rw [wWhl_fn]
  try rw [wCmp_fn]
  try rw [wE_fn]
  try rw [wT_fn]
  try rw [wO_fn]
  try rw [wA_fn]
  try rw [wI_fn]
  try rw [wS_fn]
  try rw [wK_fn]
  try rw [wOp_fn]
  try rw [wOq_fn]
  try rw [wN_fn]
  try rw [wRt_fn]
  try rw [wIf_fn]
  try rw [wGd_fn]
  try rw [wHr_fn]
  exact vS_ret_nref
theorem wO_idxOf {a b : IE} {q : Ct OV} : @wO C (.idxOf a b) st q x = @wE C (.idxOf a b) st ⟨fun r st => q.k (.v r.w) st⟩ x := by
  try rw [wOs_fn]
  try rw [wSs_fn]
  try rw [wFor_fn]
  try rw [wWhl_fn]
  try rw [wCmp_fn]
  try rw [wE_fn]
  try rw [wT_fn]
  try rw [wO_fn]
  try rw [wA_fn]
  try rw [wI_fn]
  try rw [wS_fn]
  try rw [wK_fn]
  try rw [wOp_fn]
  try rw [wOq_fn]
  try rw [wN_fn]
  try rw [wRt_fn]
  try rw [wIf_fn]
  try rw [wGd_fn]
  try rw [wHr_fn]
  exact vO_idxOf
theorem wT_idxOf {a b : IE} {q : Ct Bool} : @wT C (.idxOf a b) st q x = @wE C (.idxOf a b) st ⟨fun r st => @wOp _ (truth (vw st.sto r.w)) st q⟩ x := by
  try rw [wOs_fn]
  try rw [wSs_fn]
  try rw [wFor_fn]
  try rw [wWhl_fn]
  try rw [wCmp_fn]
  try rw [wE_fn]
  try rw [wT_fn]
  try rw [wO_fn]
  try rw [wA_fn]
  try rw [wI_fn]
  try rw [wS_fn]
  try rw [wK_fn]
  try rw [wOp_fn]
  try rw [wOq_fn]
  try rw [wN_fn]
  try rw [wRt_fn]
  try rw [wIf_fn]
  try rw [wGd_fn]
  try rw [wHr_fn]
  exact vT_idxOf
theorem wS_ret_idxOf {a b : IE} : @wS C (.ret (.idxOf a b)) st Q = @wE C (.idxOf a b) st ⟨fun r st => Q.rt r st.sto⟩ ⟨Q.ex⟩ := by
  try rw [wOs_fn]
  try rw [wSs_fn]
  try rw [wFor_fn]
  try rw [wWhl_fn]
  try rw [wCmp_fn]
  try rw [wE_fn]
  try rw [wT_fn]
  try rw [wO_fn]
  try rw [wA_fn]
  try rw [wI_fn]
  try rw [wS_fn]
  try rw [wK_fn]
  try rw [wOp_fn]
  try rw [wOq_fn]
  try rw [wN_fn]
  try rw [wRt_fn]
  try rw [wIf_fn]
  try rw [wGd_fn]
  try rw [wHr_fn]
  exact vS_ret_idxOf
theorem wT_var {i : Nat} {q : Ct Bool} : @wT C (.var i) st q x = @wO C (.var i) st ⟨fun o st => @wOp _ (pvB o st) st q⟩ x := by
  try rw [wOs_fn]
  try rw [wSs_fn]
  try rw [wFor_fn]
  try rw [wWhl_fn]
  try rw [wCmp_fn]
  try rw [wE_fn]
  try rw [wT_fn]
  try rw [wO_fn]
  try rw [wA_fn]
  try rw [wI_fn]
  try rw [wS_fn]
  try rw [wK_fn]
  try rw [wOp_fn]
  try rw [wOq_fn]
  try rw [wN_fn]
  try rw [wRt_fn]
  try rw [wIf_fn]
  try rw [wGd_fn]
  try rw [wHr_fn]
  exact vT_var
end
theorem wIf_split {b : Bool} {A B : Cq} (h1 : b = true → A.p) (h2 : b = false → B.p) : @wIf b A B := @wIf.mk b A B (vIf_split h1 h2)
theorem wGd_intro {b : Bool} {A : Cq} (h : b = true) (h2 : A.p) : @wGd b A := ⟨⟨h, h2⟩⟩
section
variable {C : CT} {st : ST} {x : Xk} {Q : Qs}
theorem wK_enter {T : FT} {k f : Nat} {fn : FnI} {ws : List W} {S : List SO} {q : Cc} {x : Xc} (h : T.lookup f = some fn) (hl : (ws.length == fn.np) = true)
    (g : @wSs (callN T k) fn.body ⟨entryE fn.ns ws, S⟩ (Qs.fin q x)) : @wK (callN T (k + 1) f ws S) q x := by
  rw [wK_fn]; rw [wSs_fn] at g
  exact vK_enter h hl g
theorem wFor_inv {β : Type} {enc : β → W} {g : TgI} {b : IB} {all : List β} (I : List β → List β → ST → Prop) (h0 : I [] all st)
    (hs : ∀ pre y post st, all = pre ++ y :: post → I pre (y :: post) st → @wN (setTO g (enc y) st) ⟨fun st => @wSs C b st ⟨fun st => @wInv st ⟨I (pre ++ [y]) post⟩, Q.rt, Q.nx, fun st => @wInv st ⟨I (pre ++ [y]) post⟩, Q.ex⟩, fun _ _ => False, fun _ => False, fun _ => False, fun _ _ _ => False⟩) (hd : ∀ st, I all [] st → Q.nx st) : @wFor C g b (all.map enc) st Q := by
  rw [wFor_fn]; rw [wSs_fn, wN_fn] at hs
  exact vFor_inv I h0 hs hd
theorem wWhl_inv {c : IE} {b : IB} (I : Nat → ST → Prop) (n : Nat) (hn : n < FU) (h0 : I n st) (hs : ∀ n st, I n st → @wT C c st ⟨fun k st => @wIf k ⟨@wSs C b st ⟨fun st => @wInv st ⟨fun st => ∃ m, m < n ∧ I m st⟩, Q.rt, Q.nx, fun st => @wInv st ⟨fun st => ∃ m, m < n ∧ I m st⟩, Q.ex⟩⟩ ⟨Q.nx st⟩⟩ ⟨Q.ex⟩) :
    @wWhl C c b st Q := by
  rw [wWhl_fn]; rw [wT_fn, wSs_fn, wIf_fn] at hs
  exact vWhl_inv I n hn h0 hs
theorem wCmp_map {β : Type} {f : β → W} {all : List β} {elt : IE} {i : Nat} {cond : IE} {has : Bool} {env : Env'} {S : List SO} {q : Ct RV} (g : β → Option W) (hi : i < env.length)
    (h : ∀ y ∈ all, @wIf has ⟨@wT C cond ⟨env.set i (some (.val (f y))), S⟩ ⟨fun b st => st = ⟨env.set i (some (.val (f y))), S⟩ ∧ @wIf b ⟨@wE C elt ⟨env.set i (some (.val (f y))), S⟩ ⟨fun r st => st = ⟨env.set i (some (.val (f y))), S⟩ ∧ g y = some r.w⟩ ⟨fun _ _ _ => False⟩⟩ ⟨g y = none⟩⟩ ⟨fun _ _ _ => False⟩⟩
      ⟨@wE C elt ⟨env.set i (some (.val (f y))), S⟩ ⟨fun r st => st = ⟨env.set i (some (.val (f y))), S⟩ ∧ g y = some r.w⟩ ⟨fun _ _ _ => False⟩⟩)
    (hq : q.k (.f .lst (all.filterMap g)) ⟨env.set i (keepV env[i]?), S⟩) : @wCmp C elt (.nm i) cond has (all.map f) ⟨env, S⟩ q := by
  rw [wCmp_fn]; rw [wE_fn, wT_fn, wIf_fn] at h
  exact vCmp_map g hi h hq
theorem wK_mono {r : RC} {q q' : Cc} {x x' : Xc} (h : @wK r q x) (h1 : ∀ r S, q.k r S → q'.k r S) (h2 : ∀ c fs S, x.x c fs S → x'.x c fs S) : @wK r q' x' := by
  rw [wK_fn] at h ⊢
  exact vK_mono h h1 h2
theorem wK_ok {r : RC} {p : RV → Prop} (h : @wK r ⟨fun r _ => p r⟩ ⟨fun _ _ _ => False⟩) : ∃ r' S, r = .ok r' S ∧ p r' := by
  rw [wK_fn] at h
  exact vK_ok h
end
theorem keepV_n0 : keepV (some none) = none := rfl
theorem keepV_nn : keepV none = none := rfl
theorem keepV_v {w : W} : keepV (some (some (.val w))) = some (.val w) := rfl
theorem keepV_o {k : OK} {ws : List W} : keepV (some (some (.own k ws))) = none := rfl
end LL

set_option Elab.async false
set_option linter.all false
set_option maxRecDepth 100000
set_option maxHeartbeats 4000000
/-! Wl: what is computed from words and rows of words. -/
namespace LL
open PySem L2 Mrg
abbrev sW (xs : List Str) : List W := xs.map W.str
abbrev tW (xs : List Str) : W := .tup (sW xs)
abbrev lW (xs : List Str) : W := .lst (sW xs)
theorem okds_s : ∀ (n : Nat) (xs : List Str), okds n (sW xs) = true
  | n, [] => by simp [okds]
  | n, x :: xs => by
    have := okds_s n xs
    simp only [sW, List.map_cons, okds, Bool.and_eq_true] at this ⊢
    exact ⟨by cases n <;> simp [okd], this⟩
theorem okd_t (n : Nat) (xs : List Str) : okd (n + 1) (tW xs) = true := by rw [okd]; exact okds_s n xs
theorem okd_l (n : Nat) (xs : List Str) : okd (n + 1) (lW xs) = true := by rw [okd]; exact okds_s n xs
theorem okds_t : ∀ (n : Nat) (rs : List (List Str)), okds (n + 1) (rs.map tW) = true
  | n, [] => by simp [okds]
  | n, x :: xs => by
    simp only [List.map_cons, okds, Bool.and_eq_true]
    exact ⟨okd_t n x, okds_t n xs⟩
theorem okds_l : ∀ (n : Nat) (rs : List (List Str)), okds (n + 1) (rs.map lW) = true
  | n, [] => by simp [okds]
  | n, x :: xs => by
    simp only [List.map_cons, okds, Bool.and_eq_true]
    exact ⟨okd_l n x, okds_l n xs⟩
theorem okds_i : ∀ (n : Nat) (xs : List Int), okds n (xs.map W.int) = true
  | n, [] => by simp [okds]
  | n, x :: xs => by
    have := okds_i n xs
    simp only [List.map_cons, okds, Bool.and_eq_true] at this ⊢
    exact ⟨by cases n <;> simp [okd], this⟩
theorem okdc_nil {n : Nat} : okds n [] = true := by simp [okds]
theorem okdc_cons {n : Nat} {x : W} {xs : List W} : okds n (x :: xs) = (okd n x && okds n xs) := by simp [okds]
theorem okdc_non {n : Nat} : okd n .non = true := by cases n <;> simp [okd]
theorem okdc_bl {n : Nat} {b : Bool} : okd n (.bl b) = true := by cases n <;> simp [okd]
theorem okdc_int {n : Nat} {i : Int} : okd n (.int i) = true := by cases n <;> simp [okd]
theorem okdc_str {n : Nat} {x : Str} : okd n (.str x) = true := by cases n <;> simp [okd]
theorem okds_n : ∀ (n : Nat) (xs : List Nat), okds n (xs.map fun k : Nat => W.int k) = true
  | n, [] => by simp [okds]
  | n, x :: xs => by
    have := okds_n n xs
    simp only [List.map_cons, okds, Bool.and_eq_true] at this ⊢
    exact ⟨by cases n <;> simp [okd], this⟩
theorem weqs_s : ∀ (xs ys : List Str), weqs (sW xs) (sW ys) = decide (xs = ys)
  | [], [] => by simp [weqs]
  | [], y :: ys => by simp [weqs]
  | x :: xs, [] => by simp [weqs]
  | x :: xs, y :: ys => by
    have ih := weqs_s xs ys
    show (weq (.str x) (.str y) && weqs (sW xs) (sW ys)) = _
    rw [ih]
    rw [Bool.eq_iff_iff]
    simp [weq]
theorem weqs_nil {xs : List W} : weqs xs [] = xs.isEmpty := by cases xs <;> simp [weqs]
theorem weqs_nil' {xs : List W} : weqs [] xs = xs.isEmpty := by cases xs <;> simp [weqs]
theorem flat_s (xs : List Str) : (sW xs).all flatW = true := by rw [List.all_map, List.all_eq_true]; intro x _; rfl
theorem any_s (x : Str) (xs : List Str) : ((sW xs).any fun y => weq y (.str x)) = decide (x ∈ xs) := by
  rw [Bool.eq_iff_iff, List.any_map, List.any_eq_true]
  simp only [decide_eq_true_eq, Function.comp]
  constructor
  · rintro ⟨y, hy, e⟩
    have : y = x := by simpa [weq] using e
    rw [← this]; exact hy
  · exact fun h => ⟨x, h, by simp [weq]⟩
/-! comparisons, form by form -/
theorem cmp_lt {i j : Int} : cmp2 .lt (.int i) (.int j) = some (decide (i < j)) := rfl
theorem cmp_le {i j : Int} : cmp2 .le (.int i) (.int j) = some (decide (i ≤ j)) := rfl
theorem cmp_gt {i j : Int} : cmp2 .gt (.int i) (.int j) = some (decide (j < i)) := rfl
theorem cmp_ge {i j : Int} : cmp2 .ge (.int i) (.int j) = some (decide (j ≤ i)) := rfl
theorem cmp_isN {x : W} : cmp2 .isN x .non = some (isNonW x) := by cases x <;> rfl
theorem cmp_notN {x : W} : cmp2 .notN x .non = some (!isNonW x) := by cases x <;> rfl
theorem cmp_eq_ii {i j : Int} : cmp2 .eq (.int i) (.int j) = some (decide (i = j)) := by
  have : (i == j) = decide (i = j) := by rw [Bool.eq_iff_iff]; simp
  simp only [cmp2, okd, weq, this, Bool.and_self, if_true]
theorem cmp_ne_ii {i j : Int} : cmp2 .ne (.int i) (.int j) = some (!decide (i = j)) := by
  have : (i == j) = decide (i = j) := by rw [Bool.eq_iff_iff]; simp
  simp only [cmp2, okd, weq, this, Bool.and_self, if_true]
theorem cmp_eq_ni {j : Int} : cmp2 .eq .non (.int j) = some false := by simp [cmp2, okd, weq]
theorem cmp_ne_ni {j : Int} : cmp2 .ne .non (.int j) = some true := by simp [cmp2, okd, weq]
theorem cmp_eq_ss (x y : Str) : cmp2 .eq (.str x) (.str y) = some (decide (x = y)) := by
  have : (x == y) = decide (x = y) := by rw [Bool.eq_iff_iff]; simp
  simp only [cmp2, okd, weq, this, Bool.and_self, if_true]
theorem cmp_ne_ss (x y : Str) : cmp2 .ne (.str x) (.str y) = some (!decide (x = y)) := by
  have : (x == y) = decide (x = y) := by rw [Bool.eq_iff_iff]; simp
  simp only [cmp2, okd, weq, this, Bool.and_self, if_true]
theorem cmp_eq_l0 {xs : List W} (h : okds 59 xs = true) : cmp2 .eq (.lst xs) (.lst []) = some xs.isEmpty := by
  have h3 : okd 60 (.lst []) = true := rfl
  have h1 : okd 60 (.lst xs) = true := h
  simp only [cmp2, h1, h3, weq, weqs_nil, Bool.and_true, if_true]
theorem cmp_ne_l0 {xs : List W} (h : okds 59 xs = true) : cmp2 .ne (.lst xs) (.lst []) = some (!xs.isEmpty) := by
  have h3 : okd 60 (.lst []) = true := rfl
  have h1 : okd 60 (.lst xs) = true := h
  simp only [cmp2, h1, h3, weq, weqs_nil, Bool.and_true, if_true]
theorem cmp_eq_t0 {xs : List W} (h : okds 59 xs = true) : cmp2 .eq (.tup xs) (.tup []) = some xs.isEmpty := by
  have h3 : okd 60 (.tup []) = true := rfl
  have h1 : okd 60 (.tup xs) = true := h
  simp only [cmp2, h1, h3, weq, weqs_nil, Bool.and_true, if_true]
theorem cmp_ne_t0 {xs : List W} (h : okds 59 xs = true) : cmp2 .ne (.tup xs) (.tup []) = some (!xs.isEmpty) := by
  have h3 : okd 60 (.tup []) = true := rfl
  have h1 : okd 60 (.tup xs) = true := h
  simp only [cmp2, h1, h3, weq, weqs_nil, Bool.and_true, if_true]
theorem cmp_eq_ll (xs ys : List Str) : cmp2 .eq (lW xs) (lW ys) = some (decide (xs = ys)) := by
  have h1 := okd_l 59 xs
  have h2 := okd_l 59 ys
  simp only [cmp2, h1, h2, weq, weqs_s, Bool.and_true, if_true]
theorem cmp_eq_tt (xs ys : List Str) : cmp2 .eq (tW xs) (tW ys) = some (decide (xs = ys)) := by
  have h1 := okd_t 59 xs
  have h2 := okd_t 59 ys
  simp only [cmp2, h1, h2, weq, weqs_s, Bool.and_true, if_true]
theorem cmp_in_t (x : Str) (ys : List Str) : cmp2 .inn (.str x) (tW ys) = some (decide (x ∈ ys)) := by
  have h1 := flat_s ys
  have h2 := any_s x ys
  simp only [cmp2, items, Option.bind_some, flatW, h1, Bool.true_and, if_true, h2]
theorem cmp_in_l (x : Str) (ys : List Str) : cmp2 .inn (.str x) (lW ys) = some (decide (x ∈ ys)) := by
  have h1 := flat_s ys
  have h2 := any_s x ys
  simp only [cmp2, items, Option.bind_some, flatW, h1, Bool.true_and, if_true, h2]
theorem cmp_nin_l (x : Str) (ys : List Str) : cmp2 .nin (.str x) (lW ys) = some (!decide (x ∈ ys)) := by
  have h1 := flat_s ys
  have h2 := any_s x ys
  simp only [cmp2, items, Option.bind_some, flatW, h1, Bool.true_and, if_true, h2]
theorem cmp_nin_t (x : Str) (ys : List Str) : cmp2 .nin (.str x) (tW ys) = some (!decide (x ∈ ys)) := by
  have h1 := flat_s ys
  have h2 := any_s x ys
  simp only [cmp2, items, Option.bind_some, flatW, h1, Bool.true_and, if_true, h2]
/-! cuts -/
theorem sfrom1 (xs : List W) : cutW xs (some 1) none = xs.tail := by
  cases xs with
  | nil => rfl
  | cons x t =>
    have : ((x :: t).drop 1).length = t.length := by simp
    simp only [cutW, HT.sIx, List.tail_cons]
    simp
theorem sl1_t (ys : List W) : slc2 (some 1) none (.tup ys) = some (.v (.tup ys.tail)) := by rw [slc2, sfrom1]
theorem sl1_l (ys : List W) : slc2 (some 1) none (.lst ys) = some (.f .lst ys.tail) := by rw [slc2, sfrom1]
theorem cut_from {xs : List W} {n : Nat} (h : n ≤ xs.length) : cutW xs (some (n : Int)) none = xs.drop n := by
  have e : HT.sIx xs.length 0 (some (n : Int)) = n := by
    unfold HT.sIx
    have : ¬ ((n : Int) < 0) := by omega
    simp [this]
    omega
  have e2 : HT.sIx xs.length xs.length none = xs.length := rfl
  unfold cutW
  rw [e, e2]
  exact List.take_of_length_le (by simp)
theorem cut_upto {xs : List W} {n : Nat} (h : n ≤ xs.length) : cutW xs none (some (n : Int)) = xs.take n := by
  have e : HT.sIx xs.length xs.length (some (n : Int)) = n := by
    unfold HT.sIx
    have : ¬ ((n : Int) < 0) := by omega
    simp [this]
    omega
  have e2 : HT.sIx xs.length 0 none = 0 := rfl
  unfold cutW
  rw [e, e2, List.drop_zero, Nat.sub_zero]
theorem slf_t {xs : List W} {n : Nat} (h : n ≤ xs.length) : slc2 (some (n : Int)) none (.tup xs) = some (.v (.tup (xs.drop n))) := by rw [slc2, cut_from h]
theorem slu_t {xs : List W} {n : Nat} (h : n ≤ xs.length) : slc2 none (some (n : Int)) (.tup xs) = some (.v (.tup (xs.take n))) := by rw [slc2, cut_upto h]
theorem slf_l {xs : List W} {n : Nat} (h : n ≤ xs.length) : slc2 (some (n : Int)) none (.lst xs) = some (.f .lst (xs.drop n)) := by rw [slc2, cut_from h]
theorem slu_l {xs : List W} {n : Nat} (h : n ≤ xs.length) : slc2 none (some (n : Int)) (.lst xs) = some (.f .lst (xs.take n)) := by rw [slc2, cut_upto h]
theorem er_map : ∀ (xs : List Str) (j : Nat), (sW xs).eraseIdx j = sW (xs.eraseIdx j)
  | [], j => by simp
  | x :: xs, 0 => rfl
  | x :: xs, j + 1 => by
    have := er_map xs j
    simp only [sW, List.map_cons, List.eraseIdx_cons_succ] at this ⊢
    rw [this]
theorem er_perm : ∀ (xs : List Str) (j : Nat) (h : j < xs.length), (xs[j] :: xs.eraseIdx j).Perm xs
  | x :: xs, 0, _ => .refl _
  | x :: xs, j + 1, h => by
    have h' : j < xs.length := by simpa using h
    have := er_perm xs j h'
    exact (List.Perm.swap x xs[j] (xs.eraseIdx j)).trans (this.cons x)
theorem perm_pick {l out : List Str} {n : Nat} (hn : n < l.length) : ((out ++ [l[n]]) ++ l.eraseIdx n).Perm (out ++ l) := by
  rw [List.append_assoc]
  exact List.Perm.append_left out (er_perm l n hn)
end LL

set_option Elab.async false
set_option linter.all false
set_option maxRecDepth 100000
set_option maxHeartbeats 4000000
/-! LB: what every law's text begins with: numbers drawn, items picked, twelve words. -/
namespace LB
open PySem L2 LL Fn
/-- the law's own row first, the rest of the store as it was -/
def Row (ns : List Int) (S0 S : List SO) : Prop := ∃ p q r : Int, 0 ≤ p ∧ S = .lst [.scr ns, .int p, .int q, .int r] :: S0
section
variable {T : FT} {k : Nat} {ns : List Int} {S0 S : List SO} {q : Cc} {x : Xc}
theorem taken_w {m : Int} (hT : T.lookup 5 = some f__law_taken) (hS : Row ns S0 S) (h0 : 0 < m) (h1 : m < 1073741824) (h : ∀ v S', Row ns S0 S' → 0 ≤ v → v < m → q.k (.v (.int v)) S') : @wK (callN T (k + 1) 5 [.ref 0, .int m] S) q x := by
  obtain ⟨p, u, r, hp, rfl⟩ := hS
  refine wK_enter hT rfl ?_
  unfold f__law_taken
  have vm : ∀ z : Int, 0 ≤ z % m ∧ z % m < m := fun z => ⟨Int.emod_nonneg _ (by omega), Int.emod_lt_of_pos _ h0⟩
  by_cases hr : 0 < r
  · simp [wE_var, wO_var, wS_retV, wT_andE, wT_orE, wT_notE, wO_non, wE_non, wT_non, wS_ret_non, wO_bl, wE_bl, wT_bl, wS_ret_bl, wO_int, wE_int, wT_int, wS_ret_int, wO_str, wE_str, wT_str, wS_ret_str, wO_tup, wE_tup, wT_tup, wS_ret_tup, wO_lst, wE_lst, wT_lst, wS_ret_lst, wO_bin, wE_bin, wT_bin, wS_ret_bin, wO_cmp, wE_cmp, wT_cmp, wS_ret_cmp, wO_andE, wE_andE, wS_ret_andE, wO_orE, wE_orE, wS_ret_orE, wO_notE, wE_notE, wS_ret_notE, wO_ifE, wE_ifE, wT_ifE, wS_ret_ifE, wO_idx, wE_idx, wT_idx, wS_ret_idx, wO_sfrom, wE_sfrom, wT_sfrom, wS_ret_sfrom, wO_upto, wE_upto, wT_upto, wS_ret_upto, wO_cut, wE_cut, wT_cut, wS_ret_cut, wO_rev, wE_rev, wT_rev, wS_ret_rev, wO_call, wE_call, wT_call, wS_ret_call, wO_blt, wE_blt, wT_blt, wS_ret_blt, wO_pop, wE_pop, wT_pop, wS_ret_pop, wO_setLen, wE_setLen, wT_setLen, wS_ret_setLen, wO_isT, wE_isT, wT_isT, wS_ret_isT, wO_comp, wE_comp, wT_comp, wS_ret_comp, wO_nref, wE_nref, wT_nref, wS_ret_nref, wO_idxOf, wE_idxOf, wT_idxOf, wS_ret_idxOf, wT_var, wA_nil, wA_cons, wOs_nil, wOs_cons, wI_seq, wI_rng, wI_enm, wSs_nil, wSs_cons, wS_asg, wS_unp, wS_par, wS_setI, wS_app, wS_ex, wS_ifS, wS_whl, wS_forS, wS_retN, wS_pass, wS_brk, wS_cnt, wS_nvr, wS_rse, wS_tryE, wOp_some, wOp_none, wOq_some, wOq_none, wN_some, wN_none, wRt_some, wRt_none, wIf_true, wIf_false, wGd_true, wGd_false, varO, opO, retO, pv2, pv1, pvB, pvI, cutO, rvB, isOwnL, isAppL, popO, nrefO, isLO, rngO, enmO, setTO, setIO, appO2, Qs.seq_nx, Qs.seq_rt, Qs.seq_bk, Qs.seq_ct, Qs.seq_ex, Qs.fin_nx, Qs.fin_rt, Qs.fin_ex, entryE, deref, derefV, vw, derefs, op2, cmp_lt, cmp_le, cmp_gt, cmp_ge, cmp_isN, cmp_notN, cmp_eq_ii, cmp_ne_ii, cmp_eq_ni, cmp_ne_ni, cmp_eq_ss, cmp_ne_ss, cmp_in_t, cmp_in_l, cmp_nin_l, cmp_nin_t, okds_s, okds_t, okds_l, okds_i, okds_n, okdc_nil, okdc_cons, okdc_non, okdc_bl, okdc_int, okdc_str, cmp_eq_l0, cmp_ne_l0, cmp_eq_t0, cmp_ne_t0, sl1_t, sl1_l, isNonW, idx2, atI, ixN, blt1, truth, RV.w, slOf, toI, items, isLst, setT, setTs, vB, mulOk, rngOk_small, szOk_small, wHr_nil, wHr_cons, hrO, hAsg, hev, hevs, inE, offE, keepV_n0, keepV_nn, keepV_v, keepV_o, h0, h1, hr]
    exact h _ _ ⟨p, _, _, hp, rfl⟩ (vm r).1 (vm r).2
  · simp [wE_var, wO_var, wS_retV, wT_andE, wT_orE, wT_notE, wO_non, wE_non, wT_non, wS_ret_non, wO_bl, wE_bl, wT_bl, wS_ret_bl, wO_int, wE_int, wT_int, wS_ret_int, wO_str, wE_str, wT_str, wS_ret_str, wO_tup, wE_tup, wT_tup, wS_ret_tup, wO_lst, wE_lst, wT_lst, wS_ret_lst, wO_bin, wE_bin, wT_bin, wS_ret_bin, wO_cmp, wE_cmp, wT_cmp, wS_ret_cmp, wO_andE, wE_andE, wS_ret_andE, wO_orE, wE_orE, wS_ret_orE, wO_notE, wE_notE, wS_ret_notE, wO_ifE, wE_ifE, wT_ifE, wS_ret_ifE, wO_idx, wE_idx, wT_idx, wS_ret_idx, wO_sfrom, wE_sfrom, wT_sfrom, wS_ret_sfrom, wO_upto, wE_upto, wT_upto, wS_ret_upto, wO_cut, wE_cut, wT_cut, wS_ret_cut, wO_rev, wE_rev, wT_rev, wS_ret_rev, wO_call, wE_call, wT_call, wS_ret_call, wO_blt, wE_blt, wT_blt, wS_ret_blt, wO_pop, wE_pop, wT_pop, wS_ret_pop, wO_setLen, wE_setLen, wT_setLen, wS_ret_setLen, wO_isT, wE_isT, wT_isT, wS_ret_isT, wO_comp, wE_comp, wT_comp, wS_ret_comp, wO_nref, wE_nref, wT_nref, wS_ret_nref, wO_idxOf, wE_idxOf, wT_idxOf, wS_ret_idxOf, wT_var, wA_nil, wA_cons, wOs_nil, wOs_cons, wI_seq, wI_rng, wI_enm, wSs_nil, wSs_cons, wS_asg, wS_unp, wS_par, wS_setI, wS_app, wS_ex, wS_ifS, wS_whl, wS_forS, wS_retN, wS_pass, wS_brk, wS_cnt, wS_nvr, wS_rse, wS_tryE, wOp_some, wOp_none, wOq_some, wOq_none, wN_some, wN_none, wRt_some, wRt_none, wIf_true, wIf_false, wGd_true, wGd_false, varO, opO, retO, pv2, pv1, pvB, pvI, cutO, rvB, isOwnL, isAppL, popO, nrefO, isLO, rngO, enmO, setTO, setIO, appO2, Qs.seq_nx, Qs.seq_rt, Qs.seq_bk, Qs.seq_ct, Qs.seq_ex, Qs.fin_nx, Qs.fin_rt, Qs.fin_ex, entryE, deref, derefV, vw, derefs, op2, cmp_lt, cmp_le, cmp_gt, cmp_ge, cmp_isN, cmp_notN, cmp_eq_ii, cmp_ne_ii, cmp_eq_ni, cmp_ne_ni, cmp_eq_ss, cmp_ne_ss, cmp_in_t, cmp_in_l, cmp_nin_l, cmp_nin_t, okds_s, okds_t, okds_l, okds_i, okds_n, okdc_nil, okdc_cons, okdc_non, okdc_bl, okdc_int, okdc_str, cmp_eq_l0, cmp_ne_l0, cmp_eq_t0, cmp_ne_t0, sl1_t, sl1_l, isNonW, idx2, atI, ixN, blt1, truth, RV.w, slOf, toI, items, isLst, setT, setTs, vB, mulOk, rngOk_small, szOk_small, wHr_nil, wHr_cons, hrO, hAsg, hev, hevs, inE, offE, keepV_n0, keepV_nn, keepV_v, keepV_o, h0, h1, hr]
    refine wIf_split (fun hc => ?_) (fun hc => ?_)
    · simp [wE_var, wO_var, wS_retV, wT_andE, wT_orE, wT_notE, wO_non, wE_non, wT_non, wS_ret_non, wO_bl, wE_bl, wT_bl, wS_ret_bl, wO_int, wE_int, wT_int, wS_ret_int, wO_str, wE_str, wT_str, wS_ret_str, wO_tup, wE_tup, wT_tup, wS_ret_tup, wO_lst, wE_lst, wT_lst, wS_ret_lst, wO_bin, wE_bin, wT_bin, wS_ret_bin, wO_cmp, wE_cmp, wT_cmp, wS_ret_cmp, wO_andE, wE_andE, wS_ret_andE, wO_orE, wE_orE, wS_ret_orE, wO_notE, wE_notE, wS_ret_notE, wO_ifE, wE_ifE, wT_ifE, wS_ret_ifE, wO_idx, wE_idx, wT_idx, wS_ret_idx, wO_sfrom, wE_sfrom, wT_sfrom, wS_ret_sfrom, wO_upto, wE_upto, wT_upto, wS_ret_upto, wO_cut, wE_cut, wT_cut, wS_ret_cut, wO_rev, wE_rev, wT_rev, wS_ret_rev, wO_call, wE_call, wT_call, wS_ret_call, wO_blt, wE_blt, wT_blt, wS_ret_blt, wO_pop, wE_pop, wT_pop, wS_ret_pop, wO_setLen, wE_setLen, wT_setLen, wS_ret_setLen, wO_isT, wE_isT, wT_isT, wS_ret_isT, wO_comp, wE_comp, wT_comp, wS_ret_comp, wO_nref, wE_nref, wT_nref, wS_ret_nref, wO_idxOf, wE_idxOf, wT_idxOf, wS_ret_idxOf, wT_var, wA_nil, wA_cons, wOs_nil, wOs_cons, wI_seq, wI_rng, wI_enm, wSs_nil, wSs_cons, wS_asg, wS_unp, wS_par, wS_setI, wS_app, wS_ex, wS_ifS, wS_whl, wS_forS, wS_retN, wS_pass, wS_brk, wS_cnt, wS_nvr, wS_rse, wS_tryE, wOp_some, wOp_none, wOq_some, wOq_none, wN_some, wN_none, wRt_some, wRt_none, wIf_true, wIf_false, wGd_true, wGd_false, varO, opO, retO, pv2, pv1, pvB, pvI, cutO, rvB, isOwnL, isAppL, popO, nrefO, isLO, rngO, enmO, setTO, setIO, appO2, Qs.seq_nx, Qs.seq_rt, Qs.seq_bk, Qs.seq_ct, Qs.seq_ex, Qs.fin_nx, Qs.fin_rt, Qs.fin_ex, entryE, deref, derefV, vw, derefs, op2, cmp_lt, cmp_le, cmp_gt, cmp_ge, cmp_isN, cmp_notN, cmp_eq_ii, cmp_ne_ii, cmp_eq_ni, cmp_ne_ni, cmp_eq_ss, cmp_ne_ss, cmp_in_t, cmp_in_l, cmp_nin_l, cmp_nin_t, okds_s, okds_t, okds_l, okds_i, okds_n, okdc_nil, okdc_cons, okdc_non, okdc_bl, okdc_int, okdc_str, cmp_eq_l0, cmp_ne_l0, cmp_eq_t0, cmp_ne_t0, sl1_t, sl1_l, isNonW, idx2, atI, ixN, blt1, truth, RV.w, slOf, toI, items, isLst, setT, setTs, vB, mulOk, rngOk_small, szOk_small, wHr_nil, wHr_cons, hrO, hAsg, hev, hevs, inE, offE, keepV_n0, keepV_nn, keepV_v, keepV_o, h0, h1]
      exact h _ _ ⟨_, _, _, by omega, rfl⟩ (vm _).1 (vm _).2
    · have hc := of_decide_eq_false hc
      obtain ⟨n, rfl⟩ := Int.eq_ofNat_of_zero_le hp
      have hn : n < ns.length := by omega
      have e : (↑n + 1 - 1 : Int) = ↑n := by omega
      simp [wE_var, wO_var, wS_retV, wT_andE, wT_orE, wT_notE, wO_non, wE_non, wT_non, wS_ret_non, wO_bl, wE_bl, wT_bl, wS_ret_bl, wO_int, wE_int, wT_int, wS_ret_int, wO_str, wE_str, wT_str, wS_ret_str, wO_tup, wE_tup, wT_tup, wS_ret_tup, wO_lst, wE_lst, wT_lst, wS_ret_lst, wO_bin, wE_bin, wT_bin, wS_ret_bin, wO_cmp, wE_cmp, wT_cmp, wS_ret_cmp, wO_andE, wE_andE, wS_ret_andE, wO_orE, wE_orE, wS_ret_orE, wO_notE, wE_notE, wS_ret_notE, wO_ifE, wE_ifE, wT_ifE, wS_ret_ifE, wO_idx, wE_idx, wT_idx, wS_ret_idx, wO_sfrom, wE_sfrom, wT_sfrom, wS_ret_sfrom, wO_upto, wE_upto, wT_upto, wS_ret_upto, wO_cut, wE_cut, wT_cut, wS_ret_cut, wO_rev, wE_rev, wT_rev, wS_ret_rev, wO_call, wE_call, wT_call, wS_ret_call, wO_blt, wE_blt, wT_blt, wS_ret_blt, wO_pop, wE_pop, wT_pop, wS_ret_pop, wO_setLen, wE_setLen, wT_setLen, wS_ret_setLen, wO_isT, wE_isT, wT_isT, wS_ret_isT, wO_comp, wE_comp, wT_comp, wS_ret_comp, wO_nref, wE_nref, wT_nref, wS_ret_nref, wO_idxOf, wE_idxOf, wT_idxOf, wS_ret_idxOf, wT_var, wA_nil, wA_cons, wOs_nil, wOs_cons, wI_seq, wI_rng, wI_enm, wSs_nil, wSs_cons, wS_asg, wS_unp, wS_par, wS_setI, wS_app, wS_ex, wS_ifS, wS_whl, wS_forS, wS_retN, wS_pass, wS_brk, wS_cnt, wS_nvr, wS_rse, wS_tryE, wOp_some, wOp_none, wOq_some, wOq_none, wN_some, wN_none, wRt_some, wRt_none, wIf_true, wIf_false, wGd_true, wGd_false, varO, opO, retO, pv2, pv1, pvB, pvI, cutO, rvB, isOwnL, isAppL, popO, nrefO, isLO, rngO, enmO, setTO, setIO, appO2, Qs.seq_nx, Qs.seq_rt, Qs.seq_bk, Qs.seq_ct, Qs.seq_ex, Qs.fin_nx, Qs.fin_rt, Qs.fin_ex, entryE, deref, derefV, vw, derefs, op2, cmp_lt, cmp_le, cmp_gt, cmp_ge, cmp_isN, cmp_notN, cmp_eq_ii, cmp_ne_ii, cmp_eq_ni, cmp_ne_ni, cmp_eq_ss, cmp_ne_ss, cmp_in_t, cmp_in_l, cmp_nin_l, cmp_nin_t, okds_s, okds_t, okds_l, okds_i, okds_n, okdc_nil, okdc_cons, okdc_non, okdc_bl, okdc_int, okdc_str, cmp_eq_l0, cmp_ne_l0, cmp_eq_t0, cmp_ne_t0, sl1_t, sl1_l, isNonW, idx2, atI, ixN, blt1, truth, RV.w, slOf, toI, items, isLst, setT, setTs, vB, mulOk, rngOk_small, szOk_small, wHr_nil, wHr_cons, hrO, hAsg, hev, hevs, inE, offE, keepV_n0, keepV_nn, keepV_v, keepV_o, h0, h1, hn, e]
      refine wIf_split (fun hc => ?_) (fun hc => ?_)
      all_goals
        simp [wE_var, wO_var, wS_retV, wT_andE, wT_orE, wT_notE, wO_non, wE_non, wT_non, wS_ret_non, wO_bl, wE_bl, wT_bl, wS_ret_bl, wO_int, wE_int, wT_int, wS_ret_int, wO_str, wE_str, wT_str, wS_ret_str, wO_tup, wE_tup, wT_tup, wS_ret_tup, wO_lst, wE_lst, wT_lst, wS_ret_lst, wO_bin, wE_bin, wT_bin, wS_ret_bin, wO_cmp, wE_cmp, wT_cmp, wS_ret_cmp, wO_andE, wE_andE, wS_ret_andE, wO_orE, wE_orE, wS_ret_orE, wO_notE, wE_notE, wS_ret_notE, wO_ifE, wE_ifE, wT_ifE, wS_ret_ifE, wO_idx, wE_idx, wT_idx, wS_ret_idx, wO_sfrom, wE_sfrom, wT_sfrom, wS_ret_sfrom, wO_upto, wE_upto, wT_upto, wS_ret_upto, wO_cut, wE_cut, wT_cut, wS_ret_cut, wO_rev, wE_rev, wT_rev, wS_ret_rev, wO_call, wE_call, wT_call, wS_ret_call, wO_blt, wE_blt, wT_blt, wS_ret_blt, wO_pop, wE_pop, wT_pop, wS_ret_pop, wO_setLen, wE_setLen, wT_setLen, wS_ret_setLen, wO_isT, wE_isT, wT_isT, wS_ret_isT, wO_comp, wE_comp, wT_comp, wS_ret_comp, wO_nref, wE_nref, wT_nref, wS_ret_nref, wO_idxOf, wE_idxOf, wT_idxOf, wS_ret_idxOf, wT_var, wA_nil, wA_cons, wOs_nil, wOs_cons, wI_seq, wI_rng, wI_enm, wSs_nil, wSs_cons, wS_asg, wS_unp, wS_par, wS_setI, wS_app, wS_ex, wS_ifS, wS_whl, wS_forS, wS_retN, wS_pass, wS_brk, wS_cnt, wS_nvr, wS_rse, wS_tryE, wOp_some, wOp_none, wOq_some, wOq_none, wN_some, wN_none, wRt_some, wRt_none, wIf_true, wIf_false, wGd_true, wGd_false, varO, opO, retO, pv2, pv1, pvB, pvI, cutO, rvB, isOwnL, isAppL, popO, nrefO, isLO, rngO, enmO, setTO, setIO, appO2, Qs.seq_nx, Qs.seq_rt, Qs.seq_bk, Qs.seq_ct, Qs.seq_ex, Qs.fin_nx, Qs.fin_rt, Qs.fin_ex, entryE, deref, derefV, vw, derefs, op2, cmp_lt, cmp_le, cmp_gt, cmp_ge, cmp_isN, cmp_notN, cmp_eq_ii, cmp_ne_ii, cmp_eq_ni, cmp_ne_ni, cmp_eq_ss, cmp_ne_ss, cmp_in_t, cmp_in_l, cmp_nin_l, cmp_nin_t, okds_s, okds_t, okds_l, okds_i, okds_n, okdc_nil, okdc_cons, okdc_non, okdc_bl, okdc_int, okdc_str, cmp_eq_l0, cmp_ne_l0, cmp_eq_t0, cmp_ne_t0, sl1_t, sl1_l, isNonW, idx2, atI, ixN, blt1, truth, RV.w, slOf, toI, items, isLst, setT, setTs, vB, mulOk, rngOk_small, szOk_small, wHr_nil, wHr_cons, hrO, hAsg, hev, hevs, inE, offE, keepV_n0, keepV_nn, keepV_v, keepV_o, h0, h1, hn, e]
        exact h _ _ ⟨_, _, _, by omega, rfl⟩ (vm _).1 (vm _).2
theorem pick_w {xs : List W} (hT : T.lookup 5 = some f__law_taken) (hP : T.lookup 7 = some f__law_pick) (hS : Row ns S0 S) (h0 : xs ≠ []) (h1 : xs.length < 1073741824) (h : ∀ v S', Row ns S0 S' → v ∈ xs → q.k (.v v) S') : @wK (callN T (k + 2) 7 [.ref 0, .lst xs] S) q x := by
  refine wK_enter hP rfl ?_
  unfold f__law_pick
  simp [wE_var, wO_var, wS_retV, wT_andE, wT_orE, wT_notE, wO_non, wE_non, wT_non, wS_ret_non, wO_bl, wE_bl, wT_bl, wS_ret_bl, wO_int, wE_int, wT_int, wS_ret_int, wO_str, wE_str, wT_str, wS_ret_str, wO_tup, wE_tup, wT_tup, wS_ret_tup, wO_lst, wE_lst, wT_lst, wS_ret_lst, wO_bin, wE_bin, wT_bin, wS_ret_bin, wO_cmp, wE_cmp, wT_cmp, wS_ret_cmp, wO_andE, wE_andE, wS_ret_andE, wO_orE, wE_orE, wS_ret_orE, wO_notE, wE_notE, wS_ret_notE, wO_ifE, wE_ifE, wT_ifE, wS_ret_ifE, wO_idx, wE_idx, wT_idx, wS_ret_idx, wO_sfrom, wE_sfrom, wT_sfrom, wS_ret_sfrom, wO_upto, wE_upto, wT_upto, wS_ret_upto, wO_cut, wE_cut, wT_cut, wS_ret_cut, wO_rev, wE_rev, wT_rev, wS_ret_rev, wO_call, wE_call, wT_call, wS_ret_call, wO_blt, wE_blt, wT_blt, wS_ret_blt, wO_pop, wE_pop, wT_pop, wS_ret_pop, wO_setLen, wE_setLen, wT_setLen, wS_ret_setLen, wO_isT, wE_isT, wT_isT, wS_ret_isT, wO_comp, wE_comp, wT_comp, wS_ret_comp, wO_nref, wE_nref, wT_nref, wS_ret_nref, wO_idxOf, wE_idxOf, wT_idxOf, wS_ret_idxOf, wT_var, wA_nil, wA_cons, wOs_nil, wOs_cons, wI_seq, wI_rng, wI_enm, wSs_nil, wSs_cons, wS_asg, wS_unp, wS_par, wS_setI, wS_app, wS_ex, wS_ifS, wS_whl, wS_forS, wS_retN, wS_pass, wS_brk, wS_cnt, wS_nvr, wS_rse, wS_tryE, wOp_some, wOp_none, wOq_some, wOq_none, wN_some, wN_none, wRt_some, wRt_none, wIf_true, wIf_false, wGd_true, wGd_false, varO, opO, retO, pv2, pv1, pvB, pvI, cutO, rvB, isOwnL, isAppL, popO, nrefO, isLO, rngO, enmO, setTO, setIO, appO2, Qs.seq_nx, Qs.seq_rt, Qs.seq_bk, Qs.seq_ct, Qs.seq_ex, Qs.fin_nx, Qs.fin_rt, Qs.fin_ex, entryE, deref, derefV, vw, derefs, op2, cmp_lt, cmp_le, cmp_gt, cmp_ge, cmp_isN, cmp_notN, cmp_eq_ii, cmp_ne_ii, cmp_eq_ni, cmp_ne_ni, cmp_eq_ss, cmp_ne_ss, cmp_in_t, cmp_in_l, cmp_nin_l, cmp_nin_t, okds_s, okds_t, okds_l, okds_i, okds_n, okdc_nil, okdc_cons, okdc_non, okdc_bl, okdc_int, okdc_str, cmp_eq_l0, cmp_ne_l0, cmp_eq_t0, cmp_ne_t0, sl1_t, sl1_l, isNonW, idx2, atI, ixN, blt1, truth, RV.w, slOf, toI, items, isLst, setT, setTs, vB, mulOk, rngOk_small, szOk_small, wHr_nil, wHr_cons, hrO, hAsg, hev, hevs, inE, offE, keepV_n0, keepV_nn, keepV_v, keepV_o]
  have hl : 0 < xs.length := List.length_pos_iff.mpr h0
  refine taken_w hT hS (by omega) (by omega) fun v S' hS' v0 v1 => ?_
  obtain ⟨n, rfl⟩ := Int.eq_ofNat_of_zero_le v0
  have hn : n < xs.length := by omega
  simp [wE_var, wO_var, wS_retV, wT_andE, wT_orE, wT_notE, wO_non, wE_non, wT_non, wS_ret_non, wO_bl, wE_bl, wT_bl, wS_ret_bl, wO_int, wE_int, wT_int, wS_ret_int, wO_str, wE_str, wT_str, wS_ret_str, wO_tup, wE_tup, wT_tup, wS_ret_tup, wO_lst, wE_lst, wT_lst, wS_ret_lst, wO_bin, wE_bin, wT_bin, wS_ret_bin, wO_cmp, wE_cmp, wT_cmp, wS_ret_cmp, wO_andE, wE_andE, wS_ret_andE, wO_orE, wE_orE, wS_ret_orE, wO_notE, wE_notE, wS_ret_notE, wO_ifE, wE_ifE, wT_ifE, wS_ret_ifE, wO_idx, wE_idx, wT_idx, wS_ret_idx, wO_sfrom, wE_sfrom, wT_sfrom, wS_ret_sfrom, wO_upto, wE_upto, wT_upto, wS_ret_upto, wO_cut, wE_cut, wT_cut, wS_ret_cut, wO_rev, wE_rev, wT_rev, wS_ret_rev, wO_call, wE_call, wT_call, wS_ret_call, wO_blt, wE_blt, wT_blt, wS_ret_blt, wO_pop, wE_pop, wT_pop, wS_ret_pop, wO_setLen, wE_setLen, wT_setLen, wS_ret_setLen, wO_isT, wE_isT, wT_isT, wS_ret_isT, wO_comp, wE_comp, wT_comp, wS_ret_comp, wO_nref, wE_nref, wT_nref, wS_ret_nref, wO_idxOf, wE_idxOf, wT_idxOf, wS_ret_idxOf, wT_var, wA_nil, wA_cons, wOs_nil, wOs_cons, wI_seq, wI_rng, wI_enm, wSs_nil, wSs_cons, wS_asg, wS_unp, wS_par, wS_setI, wS_app, wS_ex, wS_ifS, wS_whl, wS_forS, wS_retN, wS_pass, wS_brk, wS_cnt, wS_nvr, wS_rse, wS_tryE, wOp_some, wOp_none, wOq_some, wOq_none, wN_some, wN_none, wRt_some, wRt_none, wIf_true, wIf_false, wGd_true, wGd_false, varO, opO, retO, pv2, pv1, pvB, pvI, cutO, rvB, isOwnL, isAppL, popO, nrefO, isLO, rngO, enmO, setTO, setIO, appO2, Qs.seq_nx, Qs.seq_rt, Qs.seq_bk, Qs.seq_ct, Qs.seq_ex, Qs.fin_nx, Qs.fin_rt, Qs.fin_ex, entryE, deref, derefV, vw, derefs, op2, cmp_lt, cmp_le, cmp_gt, cmp_ge, cmp_isN, cmp_notN, cmp_eq_ii, cmp_ne_ii, cmp_eq_ni, cmp_ne_ni, cmp_eq_ss, cmp_ne_ss, cmp_in_t, cmp_in_l, cmp_nin_l, cmp_nin_t, okds_s, okds_t, okds_l, okds_i, okds_n, okdc_nil, okdc_cons, okdc_non, okdc_bl, okdc_int, okdc_str, cmp_eq_l0, cmp_ne_l0, cmp_eq_t0, cmp_ne_t0, sl1_t, sl1_l, isNonW, idx2, atI, ixN, blt1, truth, RV.w, slOf, toI, items, isLst, setT, setTs, vB, mulOk, rngOk_small, szOk_small, wHr_nil, wHr_cons, hrO, hAsg, hev, hevs, inE, offE, keepV_n0, keepV_nn, keepV_v, keepV_o, hn]
  exact h _ _ hS' (List.getElem_mem _)
/-- the words that may be drawn -/
def ws24 : List Str := ["a", "b", "aa", "a1", "a_", "ab", "add", "call", "next", "class", "method", "constant", "clock", "rebase", "k", "abcdefghijkl", "abcdefghijkm", "writable", "x9_z", "z", "name", "load", "computed", "bind"]
theorem words_w (hT : T.lookup 5 = some f__law_taken) (hP : T.lookup 9 = some f__law_words) (hS : Row ns S0 S) (h : ∀ (l : List Str) S', Row ns S0 S' → l.Nodup → l.length = 12 → (∀ a ∈ l, a ∈ ws24) → q.k (.f .lst (l.map .str)) S') : @wK (callN T (k + 2) 9 [.ref 0] S) q x := by
  refine wK_enter hP rfl ?_
  unfold f__law_words
  simp [wE_var, wO_var, wS_retV, wT_andE, wT_orE, wT_notE, wO_non, wE_non, wT_non, wS_ret_non, wO_bl, wE_bl, wT_bl, wS_ret_bl, wO_int, wE_int, wT_int, wS_ret_int, wO_str, wE_str, wT_str, wS_ret_str, wO_tup, wE_tup, wT_tup, wS_ret_tup, wO_lst, wE_lst, wT_lst, wS_ret_lst, wO_bin, wE_bin, wT_bin, wS_ret_bin, wO_cmp, wE_cmp, wT_cmp, wS_ret_cmp, wO_andE, wE_andE, wS_ret_andE, wO_orE, wE_orE, wS_ret_orE, wO_notE, wE_notE, wS_ret_notE, wO_ifE, wE_ifE, wT_ifE, wS_ret_ifE, wO_idx, wE_idx, wT_idx, wS_ret_idx, wO_sfrom, wE_sfrom, wT_sfrom, wS_ret_sfrom, wO_upto, wE_upto, wT_upto, wS_ret_upto, wO_cut, wE_cut, wT_cut, wS_ret_cut, wO_rev, wE_rev, wT_rev, wS_ret_rev, wO_call, wE_call, wT_call, wS_ret_call, wO_blt, wE_blt, wT_blt, wS_ret_blt, wO_pop, wE_pop, wT_pop, wS_ret_pop, wO_setLen, wE_setLen, wT_setLen, wS_ret_setLen, wO_isT, wE_isT, wT_isT, wS_ret_isT, wO_comp, wE_comp, wT_comp, wS_ret_comp, wO_nref, wE_nref, wT_nref, wS_ret_nref, wO_idxOf, wE_idxOf, wT_idxOf, wS_ret_idxOf, wT_var, wA_nil, wA_cons, wOs_nil, wOs_cons, wI_seq, wI_rng, wI_enm, wSs_nil, wSs_cons, wS_asg, wS_unp, wS_par, wS_setI, wS_app, wS_ex, wS_ifS, wS_whl, wS_forS, wS_retN, wS_pass, wS_brk, wS_cnt, wS_nvr, wS_rse, wS_tryE, wOp_some, wOp_none, wOq_some, wOq_none, wN_some, wN_none, wRt_some, wRt_none, wIf_true, wIf_false, wGd_true, wGd_false, varO, opO, retO, pv2, pv1, pvB, pvI, cutO, rvB, isOwnL, isAppL, popO, nrefO, isLO, rngO, enmO, setTO, setIO, appO2, Qs.seq_nx, Qs.seq_rt, Qs.seq_bk, Qs.seq_ct, Qs.seq_ex, Qs.fin_nx, Qs.fin_rt, Qs.fin_ex, entryE, deref, derefV, vw, derefs, op2, cmp_lt, cmp_le, cmp_gt, cmp_ge, cmp_isN, cmp_notN, cmp_eq_ii, cmp_ne_ii, cmp_eq_ni, cmp_ne_ni, cmp_eq_ss, cmp_ne_ss, cmp_in_t, cmp_in_l, cmp_nin_l, cmp_nin_t, okds_s, okds_t, okds_l, okds_i, okds_n, okdc_nil, okdc_cons, okdc_non, okdc_bl, okdc_int, okdc_str, cmp_eq_l0, cmp_ne_l0, cmp_eq_t0, cmp_ne_t0, sl1_t, sl1_l, isNonW, idx2, atI, ixN, blt1, truth, RV.w, slOf, toI, items, isLst, setT, setTs, vB, mulOk, rngOk_small, szOk_small, wHr_nil, wHr_cons, hrO, hAsg, hev, hevs, inE, offE, keepV_n0, keepV_nn, keepV_v, keepV_o]
  refine wFor_inv (enc := fun k : Nat => W.int k) (all := List.range 12) (fun pre post st => ∃ (l out : List Str) (S' : List SO) (o : Option Sl), st = ⟨[some (.val (.ref 0)), some (.own .lst (l.map .str)), some (.own .lst (out.map .str)), o], S'⟩ ∧ Row ns S0 S' ∧ (out ++ l).Perm ws24 ∧ out.length = pre.length) ?_ ?_ ?_
  · exact ⟨ws24, [], S, _, rfl, hS, .refl _, rfl⟩
  · rintro pre y post st e ⟨l, out, S', o, rfl, hR, hp, hl⟩
    have hlen : out.length + l.length = 24 := by simpa [ws24] using hp.length_eq
    have hpre : pre.length < 12 := by
      have := congrArg List.length e
      simp at this; omega
    simp [wE_var, wO_var, wS_retV, wT_andE, wT_orE, wT_notE, wO_non, wE_non, wT_non, wS_ret_non, wO_bl, wE_bl, wT_bl, wS_ret_bl, wO_int, wE_int, wT_int, wS_ret_int, wO_str, wE_str, wT_str, wS_ret_str, wO_tup, wE_tup, wT_tup, wS_ret_tup, wO_lst, wE_lst, wT_lst, wS_ret_lst, wO_bin, wE_bin, wT_bin, wS_ret_bin, wO_cmp, wE_cmp, wT_cmp, wS_ret_cmp, wO_andE, wE_andE, wS_ret_andE, wO_orE, wE_orE, wS_ret_orE, wO_notE, wE_notE, wS_ret_notE, wO_ifE, wE_ifE, wT_ifE, wS_ret_ifE, wO_idx, wE_idx, wT_idx, wS_ret_idx, wO_sfrom, wE_sfrom, wT_sfrom, wS_ret_sfrom, wO_upto, wE_upto, wT_upto, wS_ret_upto, wO_cut, wE_cut, wT_cut, wS_ret_cut, wO_rev, wE_rev, wT_rev, wS_ret_rev, wO_call, wE_call, wT_call, wS_ret_call, wO_blt, wE_blt, wT_blt, wS_ret_blt, wO_pop, wE_pop, wT_pop, wS_ret_pop, wO_setLen, wE_setLen, wT_setLen, wS_ret_setLen, wO_isT, wE_isT, wT_isT, wS_ret_isT, wO_comp, wE_comp, wT_comp, wS_ret_comp, wO_nref, wE_nref, wT_nref, wS_ret_nref, wO_idxOf, wE_idxOf, wT_idxOf, wS_ret_idxOf, wT_var, wA_nil, wA_cons, wOs_nil, wOs_cons, wI_seq, wI_rng, wI_enm, wSs_nil, wSs_cons, wS_asg, wS_unp, wS_par, wS_setI, wS_app, wS_ex, wS_ifS, wS_whl, wS_forS, wS_retN, wS_pass, wS_brk, wS_cnt, wS_nvr, wS_rse, wS_tryE, wOp_some, wOp_none, wOq_some, wOq_none, wN_some, wN_none, wRt_some, wRt_none, wIf_true, wIf_false, wGd_true, wGd_false, varO, opO, retO, pv2, pv1, pvB, pvI, cutO, rvB, isOwnL, isAppL, popO, nrefO, isLO, rngO, enmO, setTO, setIO, appO2, Qs.seq_nx, Qs.seq_rt, Qs.seq_bk, Qs.seq_ct, Qs.seq_ex, Qs.fin_nx, Qs.fin_rt, Qs.fin_ex, entryE, deref, derefV, vw, derefs, op2, cmp_lt, cmp_le, cmp_gt, cmp_ge, cmp_isN, cmp_notN, cmp_eq_ii, cmp_ne_ii, cmp_eq_ni, cmp_ne_ni, cmp_eq_ss, cmp_ne_ss, cmp_in_t, cmp_in_l, cmp_nin_l, cmp_nin_t, okds_s, okds_t, okds_l, okds_i, okds_n, okdc_nil, okdc_cons, okdc_non, okdc_bl, okdc_int, okdc_str, cmp_eq_l0, cmp_ne_l0, cmp_eq_t0, cmp_ne_t0, sl1_t, sl1_l, isNonW, idx2, atI, ixN, blt1, truth, RV.w, slOf, toI, items, isLst, setT, setTs, vB, mulOk, rngOk_small, szOk_small, wHr_nil, wHr_cons, hrO, hAsg, hev, hevs, inE, offE, keepV_n0, keepV_nn, keepV_v, keepV_o]
    refine taken_w hT hR (by omega) (by omega) fun v S2 hS2 v0 v1 => ?_
    obtain ⟨n, rfl⟩ := Int.eq_ofNat_of_zero_le v0
    have hn : n < l.length := by omega
    have hz : szOk (out.length + 1) = true := szOk_small (by omega)
    simp [wE_var, wO_var, wS_retV, wT_andE, wT_orE, wT_notE, wO_non, wE_non, wT_non, wS_ret_non, wO_bl, wE_bl, wT_bl, wS_ret_bl, wO_int, wE_int, wT_int, wS_ret_int, wO_str, wE_str, wT_str, wS_ret_str, wO_tup, wE_tup, wT_tup, wS_ret_tup, wO_lst, wE_lst, wT_lst, wS_ret_lst, wO_bin, wE_bin, wT_bin, wS_ret_bin, wO_cmp, wE_cmp, wT_cmp, wS_ret_cmp, wO_andE, wE_andE, wS_ret_andE, wO_orE, wE_orE, wS_ret_orE, wO_notE, wE_notE, wS_ret_notE, wO_ifE, wE_ifE, wT_ifE, wS_ret_ifE, wO_idx, wE_idx, wT_idx, wS_ret_idx, wO_sfrom, wE_sfrom, wT_sfrom, wS_ret_sfrom, wO_upto, wE_upto, wT_upto, wS_ret_upto, wO_cut, wE_cut, wT_cut, wS_ret_cut, wO_rev, wE_rev, wT_rev, wS_ret_rev, wO_call, wE_call, wT_call, wS_ret_call, wO_blt, wE_blt, wT_blt, wS_ret_blt, wO_pop, wE_pop, wT_pop, wS_ret_pop, wO_setLen, wE_setLen, wT_setLen, wS_ret_setLen, wO_isT, wE_isT, wT_isT, wS_ret_isT, wO_comp, wE_comp, wT_comp, wS_ret_comp, wO_nref, wE_nref, wT_nref, wS_ret_nref, wO_idxOf, wE_idxOf, wT_idxOf, wS_ret_idxOf, wT_var, wA_nil, wA_cons, wOs_nil, wOs_cons, wI_seq, wI_rng, wI_enm, wSs_nil, wSs_cons, wS_asg, wS_unp, wS_par, wS_setI, wS_app, wS_ex, wS_ifS, wS_whl, wS_forS, wS_retN, wS_pass, wS_brk, wS_cnt, wS_nvr, wS_rse, wS_tryE, wOp_some, wOp_none, wOq_some, wOq_none, wN_some, wN_none, wRt_some, wRt_none, wIf_true, wIf_false, wGd_true, wGd_false, varO, opO, retO, pv2, pv1, pvB, pvI, cutO, rvB, isOwnL, isAppL, popO, nrefO, isLO, rngO, enmO, setTO, setIO, appO2, Qs.seq_nx, Qs.seq_rt, Qs.seq_bk, Qs.seq_ct, Qs.seq_ex, Qs.fin_nx, Qs.fin_rt, Qs.fin_ex, entryE, deref, derefV, vw, derefs, op2, cmp_lt, cmp_le, cmp_gt, cmp_ge, cmp_isN, cmp_notN, cmp_eq_ii, cmp_ne_ii, cmp_eq_ni, cmp_ne_ni, cmp_eq_ss, cmp_ne_ss, cmp_in_t, cmp_in_l, cmp_nin_l, cmp_nin_t, okds_s, okds_t, okds_l, okds_i, okds_n, okdc_nil, okdc_cons, okdc_non, okdc_bl, okdc_int, okdc_str, cmp_eq_l0, cmp_ne_l0, cmp_eq_t0, cmp_ne_t0, sl1_t, sl1_l, isNonW, idx2, atI, ixN, blt1, truth, RV.w, slOf, toI, items, isLst, setT, setTs, vB, mulOk, rngOk_small, szOk_small, wHr_nil, wHr_cons, hrO, hAsg, hev, hevs, inE, offE, keepV_n0, keepV_nn, keepV_v, keepV_o, hn, hz]
    rw [er_map, show List.map W.str out ++ [W.str l[n]] = sW (out ++ [l[n]]) from (List.map_append (l₁ := out) (l₂ := [l[n]])).symm]
    exact ⟨_, _, _, _, rfl, hS2, (perm_pick hn).trans hp, by simp [hl]⟩
  · rintro st ⟨l, out, S', o, rfl, hR, hp, hl⟩
    simp [wE_var, wO_var, wS_retV, wT_andE, wT_orE, wT_notE, wO_non, wE_non, wT_non, wS_ret_non, wO_bl, wE_bl, wT_bl, wS_ret_bl, wO_int, wE_int, wT_int, wS_ret_int, wO_str, wE_str, wT_str, wS_ret_str, wO_tup, wE_tup, wT_tup, wS_ret_tup, wO_lst, wE_lst, wT_lst, wS_ret_lst, wO_bin, wE_bin, wT_bin, wS_ret_bin, wO_cmp, wE_cmp, wT_cmp, wS_ret_cmp, wO_andE, wE_andE, wS_ret_andE, wO_orE, wE_orE, wS_ret_orE, wO_notE, wE_notE, wS_ret_notE, wO_ifE, wE_ifE, wT_ifE, wS_ret_ifE, wO_idx, wE_idx, wT_idx, wS_ret_idx, wO_sfrom, wE_sfrom, wT_sfrom, wS_ret_sfrom, wO_upto, wE_upto, wT_upto, wS_ret_upto, wO_cut, wE_cut, wT_cut, wS_ret_cut, wO_rev, wE_rev, wT_rev, wS_ret_rev, wO_call, wE_call, wT_call, wS_ret_call, wO_blt, wE_blt, wT_blt, wS_ret_blt, wO_pop, wE_pop, wT_pop, wS_ret_pop, wO_setLen, wE_setLen, wT_setLen, wS_ret_setLen, wO_isT, wE_isT, wT_isT, wS_ret_isT, wO_comp, wE_comp, wT_comp, wS_ret_comp, wO_nref, wE_nref, wT_nref, wS_ret_nref, wO_idxOf, wE_idxOf, wT_idxOf, wS_ret_idxOf, wT_var, wA_nil, wA_cons, wOs_nil, wOs_cons, wI_seq, wI_rng, wI_enm, wSs_nil, wSs_cons, wS_asg, wS_unp, wS_par, wS_setI, wS_app, wS_ex, wS_ifS, wS_whl, wS_forS, wS_retN, wS_pass, wS_brk, wS_cnt, wS_nvr, wS_rse, wS_tryE, wOp_some, wOp_none, wOq_some, wOq_none, wN_some, wN_none, wRt_some, wRt_none, wIf_true, wIf_false, wGd_true, wGd_false, varO, opO, retO, pv2, pv1, pvB, pvI, cutO, rvB, isOwnL, isAppL, popO, nrefO, isLO, rngO, enmO, setTO, setIO, appO2, Qs.seq_nx, Qs.seq_rt, Qs.seq_bk, Qs.seq_ct, Qs.seq_ex, Qs.fin_nx, Qs.fin_rt, Qs.fin_ex, entryE, deref, derefV, vw, derefs, op2, cmp_lt, cmp_le, cmp_gt, cmp_ge, cmp_isN, cmp_notN, cmp_eq_ii, cmp_ne_ii, cmp_eq_ni, cmp_ne_ni, cmp_eq_ss, cmp_ne_ss, cmp_in_t, cmp_in_l, cmp_nin_l, cmp_nin_t, okds_s, okds_t, okds_l, okds_i, okds_n, okdc_nil, okdc_cons, okdc_non, okdc_bl, okdc_int, okdc_str, cmp_eq_l0, cmp_ne_l0, cmp_eq_t0, cmp_ne_t0, sl1_t, sl1_l, isNonW, idx2, atI, ixN, blt1, truth, RV.w, slOf, toI, items, isLst, setT, setTs, vB, mulOk, rngOk_small, szOk_small, wHr_nil, wHr_cons, hrO, hAsg, hev, hevs, inE, offE, keepV_n0, keepV_nn, keepV_v, keepV_o]
    refine h out S' hR ?_ (by simpa using hl) fun a ha => hp.subset (List.mem_append_left _ ha)
    have : ws24.Nodup := by decide +kernel
    exact (List.nodup_append.mp (hp.nodup_iff.mpr this)).1
theorem bases_w {l : List Str} {n : Int} (hT : T.lookup 5 = some f__law_taken) (hP : T.lookup 8 = some f__law_some_bases) (hS : Row ns S0 S) (hl : l.length < 1000) (hn0 : 0 ≤ n) (hn : n < 1000) (h : ∀ (b : List Str) S', Row ns S0 S' → (∃ r, (b ++ r).Perm l) → q.k (.v (.tup (b.map .str))) S') : @wK (callN T (k + 2) 8 [.ref 0, .lst (l.map .str), .int n] S) q x := by
  refine wK_enter hP rfl ?_
  unfold f__law_some_bases
  simp [wE_var, wO_var, wS_retV, wT_andE, wT_orE, wT_notE, wO_non, wE_non, wT_non, wS_ret_non, wO_bl, wE_bl, wT_bl, wS_ret_bl, wO_int, wE_int, wT_int, wS_ret_int, wO_str, wE_str, wT_str, wS_ret_str, wO_tup, wE_tup, wT_tup, wS_ret_tup, wO_lst, wE_lst, wT_lst, wS_ret_lst, wO_bin, wE_bin, wT_bin, wS_ret_bin, wO_cmp, wE_cmp, wT_cmp, wS_ret_cmp, wO_andE, wE_andE, wS_ret_andE, wO_orE, wE_orE, wS_ret_orE, wO_notE, wE_notE, wS_ret_notE, wO_ifE, wE_ifE, wT_ifE, wS_ret_ifE, wO_idx, wE_idx, wT_idx, wS_ret_idx, wO_sfrom, wE_sfrom, wT_sfrom, wS_ret_sfrom, wO_upto, wE_upto, wT_upto, wS_ret_upto, wO_cut, wE_cut, wT_cut, wS_ret_cut, wO_rev, wE_rev, wT_rev, wS_ret_rev, wO_call, wE_call, wT_call, wS_ret_call, wO_blt, wE_blt, wT_blt, wS_ret_blt, wO_pop, wE_pop, wT_pop, wS_ret_pop, wO_setLen, wE_setLen, wT_setLen, wS_ret_setLen, wO_isT, wE_isT, wT_isT, wS_ret_isT, wO_comp, wE_comp, wT_comp, wS_ret_comp, wO_nref, wE_nref, wT_nref, wS_ret_nref, wO_idxOf, wE_idxOf, wT_idxOf, wS_ret_idxOf, wT_var, wA_nil, wA_cons, wOs_nil, wOs_cons, wI_seq, wI_rng, wI_enm, wSs_nil, wSs_cons, wS_asg, wS_unp, wS_par, wS_setI, wS_app, wS_ex, wS_ifS, wS_whl, wS_forS, wS_retN, wS_pass, wS_brk, wS_cnt, wS_nvr, wS_rse, wS_tryE, wOp_some, wOp_none, wOq_some, wOq_none, wN_some, wN_none, wRt_some, wRt_none, wIf_true, wIf_false, wGd_true, wGd_false, varO, opO, retO, pv2, pv1, pvB, pvI, cutO, rvB, isOwnL, isAppL, popO, nrefO, isLO, rngO, enmO, setTO, setIO, appO2, Qs.seq_nx, Qs.seq_rt, Qs.seq_bk, Qs.seq_ct, Qs.seq_ex, Qs.fin_nx, Qs.fin_rt, Qs.fin_ex, entryE, deref, derefV, vw, derefs, op2, cmp_lt, cmp_le, cmp_gt, cmp_ge, cmp_isN, cmp_notN, cmp_eq_ii, cmp_ne_ii, cmp_eq_ni, cmp_ne_ni, cmp_eq_ss, cmp_ne_ss, cmp_in_t, cmp_in_l, cmp_nin_l, cmp_nin_t, okds_s, okds_t, okds_l, okds_i, okds_n, okdc_nil, okdc_cons, okdc_non, okdc_bl, okdc_int, okdc_str, cmp_eq_l0, cmp_ne_l0, cmp_eq_t0, cmp_ne_t0, sl1_t, sl1_l, isNonW, idx2, atI, ixN, blt1, truth, RV.w, slOf, toI, items, isLst, setT, setTs, vB, mulOk, rngOk_small, szOk_small, wHr_nil, wHr_cons, hrO, hAsg, hev, hevs, inE, offE, keepV_n0, keepV_nn, keepV_v, keepV_o]
  refine taken_w hT hS (by omega) (by omega) fun v S2 hS2 v0 v1 => ?_
  obtain ⟨m, rfl⟩ := Int.eq_ofNat_of_zero_le v0
  have hr : rngOk (m : Int) = true := rngOk_small (by omega) (by omega)
  have e1 : (List.map W.str l).length = l.length := by simp
  simp [wE_var, wO_var, wS_retV, wT_andE, wT_orE, wT_notE, wO_non, wE_non, wT_non, wS_ret_non, wO_bl, wE_bl, wT_bl, wS_ret_bl, wO_int, wE_int, wT_int, wS_ret_int, wO_str, wE_str, wT_str, wS_ret_str, wO_tup, wE_tup, wT_tup, wS_ret_tup, wO_lst, wE_lst, wT_lst, wS_ret_lst, wO_bin, wE_bin, wT_bin, wS_ret_bin, wO_cmp, wE_cmp, wT_cmp, wS_ret_cmp, wO_andE, wE_andE, wS_ret_andE, wO_orE, wE_orE, wS_ret_orE, wO_notE, wE_notE, wS_ret_notE, wO_ifE, wE_ifE, wT_ifE, wS_ret_ifE, wO_idx, wE_idx, wT_idx, wS_ret_idx, wO_sfrom, wE_sfrom, wT_sfrom, wS_ret_sfrom, wO_upto, wE_upto, wT_upto, wS_ret_upto, wO_cut, wE_cut, wT_cut, wS_ret_cut, wO_rev, wE_rev, wT_rev, wS_ret_rev, wO_call, wE_call, wT_call, wS_ret_call, wO_blt, wE_blt, wT_blt, wS_ret_blt, wO_pop, wE_pop, wT_pop, wS_ret_pop, wO_setLen, wE_setLen, wT_setLen, wS_ret_setLen, wO_isT, wE_isT, wT_isT, wS_ret_isT, wO_comp, wE_comp, wT_comp, wS_ret_comp, wO_nref, wE_nref, wT_nref, wS_ret_nref, wO_idxOf, wE_idxOf, wT_idxOf, wS_ret_idxOf, wT_var, wA_nil, wA_cons, wOs_nil, wOs_cons, wI_seq, wI_rng, wI_enm, wSs_nil, wSs_cons, wS_asg, wS_unp, wS_par, wS_setI, wS_app, wS_ex, wS_ifS, wS_whl, wS_forS, wS_retN, wS_pass, wS_brk, wS_cnt, wS_nvr, wS_rse, wS_tryE, wOp_some, wOp_none, wOq_some, wOq_none, wN_some, wN_none, wRt_some, wRt_none, wIf_true, wIf_false, wGd_true, wGd_false, varO, opO, retO, pv2, pv1, pvB, pvI, cutO, rvB, isOwnL, isAppL, popO, nrefO, isLO, rngO, enmO, setTO, setIO, appO2, Qs.seq_nx, Qs.seq_rt, Qs.seq_bk, Qs.seq_ct, Qs.seq_ex, Qs.fin_nx, Qs.fin_rt, Qs.fin_ex, entryE, deref, derefV, vw, derefs, op2, cmp_lt, cmp_le, cmp_gt, cmp_ge, cmp_isN, cmp_notN, cmp_eq_ii, cmp_ne_ii, cmp_eq_ni, cmp_ne_ni, cmp_eq_ss, cmp_ne_ss, cmp_in_t, cmp_in_l, cmp_nin_l, cmp_nin_t, okds_s, okds_t, okds_l, okds_i, okds_n, okdc_nil, okdc_cons, okdc_non, okdc_bl, okdc_int, okdc_str, cmp_eq_l0, cmp_ne_l0, cmp_eq_t0, cmp_ne_t0, sl1_t, sl1_l, isNonW, idx2, atI, ixN, blt1, truth, RV.w, slOf, toI, items, isLst, setT, setTs, vB, mulOk, rngOk_small, szOk_small, wHr_nil, wHr_cons, hrO, hAsg, hev, hevs, inE, offE, keepV_n0, keepV_nn, keepV_v, keepV_o, hr]
  refine wFor_inv (enc := fun k : Nat => W.int k) (all := List.range m) (fun pre post st => ∃ (r b : List Str) (S' : List SO) (o : Option Sl), st = ⟨[some (.val (.ref 0)), some (.val (.lst (l.map .str))), some (.val (.int n)), o, some (.own .lst (r.map .str)), some (.val (.tup (b.map .str)))], S'⟩ ∧ Row ns S0 S' ∧ (b ++ r).Perm l) ?_ ?_ ?_
  · exact ⟨l, [], S2, _, rfl, hS2, .refl _⟩
  · rintro pre y post st e ⟨r, b, S', o, rfl, hR, hp⟩
    have hlen : b.length + r.length = l.length := by simpa using hp.length_eq
    simp [wE_var, wO_var, wS_retV, wT_andE, wT_orE, wT_notE, wO_non, wE_non, wT_non, wS_ret_non, wO_bl, wE_bl, wT_bl, wS_ret_bl, wO_int, wE_int, wT_int, wS_ret_int, wO_str, wE_str, wT_str, wS_ret_str, wO_tup, wE_tup, wT_tup, wS_ret_tup, wO_lst, wE_lst, wT_lst, wS_ret_lst, wO_bin, wE_bin, wT_bin, wS_ret_bin, wO_cmp, wE_cmp, wT_cmp, wS_ret_cmp, wO_andE, wE_andE, wS_ret_andE, wO_orE, wE_orE, wS_ret_orE, wO_notE, wE_notE, wS_ret_notE, wO_ifE, wE_ifE, wT_ifE, wS_ret_ifE, wO_idx, wE_idx, wT_idx, wS_ret_idx, wO_sfrom, wE_sfrom, wT_sfrom, wS_ret_sfrom, wO_upto, wE_upto, wT_upto, wS_ret_upto, wO_cut, wE_cut, wT_cut, wS_ret_cut, wO_rev, wE_rev, wT_rev, wS_ret_rev, wO_call, wE_call, wT_call, wS_ret_call, wO_blt, wE_blt, wT_blt, wS_ret_blt, wO_pop, wE_pop, wT_pop, wS_ret_pop, wO_setLen, wE_setLen, wT_setLen, wS_ret_setLen, wO_isT, wE_isT, wT_isT, wS_ret_isT, wO_comp, wE_comp, wT_comp, wS_ret_comp, wO_nref, wE_nref, wT_nref, wS_ret_nref, wO_idxOf, wE_idxOf, wT_idxOf, wS_ret_idxOf, wT_var, wA_nil, wA_cons, wOs_nil, wOs_cons, wI_seq, wI_rng, wI_enm, wSs_nil, wSs_cons, wS_asg, wS_unp, wS_par, wS_setI, wS_app, wS_ex, wS_ifS, wS_whl, wS_forS, wS_retN, wS_pass, wS_brk, wS_cnt, wS_nvr, wS_rse, wS_tryE, wOp_some, wOp_none, wOq_some, wOq_none, wN_some, wN_none, wRt_some, wRt_none, wIf_true, wIf_false, wGd_true, wGd_false, varO, opO, retO, pv2, pv1, pvB, pvI, cutO, rvB, isOwnL, isAppL, popO, nrefO, isLO, rngO, enmO, setTO, setIO, appO2, Qs.seq_nx, Qs.seq_rt, Qs.seq_bk, Qs.seq_ct, Qs.seq_ex, Qs.fin_nx, Qs.fin_rt, Qs.fin_ex, entryE, deref, derefV, vw, derefs, op2, cmp_lt, cmp_le, cmp_gt, cmp_ge, cmp_isN, cmp_notN, cmp_eq_ii, cmp_ne_ii, cmp_eq_ni, cmp_ne_ni, cmp_eq_ss, cmp_ne_ss, cmp_in_t, cmp_in_l, cmp_nin_l, cmp_nin_t, okds_s, okds_t, okds_l, okds_i, okds_n, okdc_nil, okdc_cons, okdc_non, okdc_bl, okdc_int, okdc_str, cmp_eq_l0, cmp_ne_l0, cmp_eq_t0, cmp_ne_t0, sl1_t, sl1_l, isNonW, idx2, atI, ixN, blt1, truth, RV.w, slOf, toI, items, isLst, setT, setTs, vB, mulOk, rngOk_small, szOk_small, wHr_nil, wHr_cons, hrO, hAsg, hev, hevs, inE, offE, keepV_n0, keepV_nn, keepV_v, keepV_o]
    refine wIf_split (fun hc => ?_) (fun hc => ?_)
    · simp [wE_var, wO_var, wS_retV, wT_andE, wT_orE, wT_notE, wO_non, wE_non, wT_non, wS_ret_non, wO_bl, wE_bl, wT_bl, wS_ret_bl, wO_int, wE_int, wT_int, wS_ret_int, wO_str, wE_str, wT_str, wS_ret_str, wO_tup, wE_tup, wT_tup, wS_ret_tup, wO_lst, wE_lst, wT_lst, wS_ret_lst, wO_bin, wE_bin, wT_bin, wS_ret_bin, wO_cmp, wE_cmp, wT_cmp, wS_ret_cmp, wO_andE, wE_andE, wS_ret_andE, wO_orE, wE_orE, wS_ret_orE, wO_notE, wE_notE, wS_ret_notE, wO_ifE, wE_ifE, wT_ifE, wS_ret_ifE, wO_idx, wE_idx, wT_idx, wS_ret_idx, wO_sfrom, wE_sfrom, wT_sfrom, wS_ret_sfrom, wO_upto, wE_upto, wT_upto, wS_ret_upto, wO_cut, wE_cut, wT_cut, wS_ret_cut, wO_rev, wE_rev, wT_rev, wS_ret_rev, wO_call, wE_call, wT_call, wS_ret_call, wO_blt, wE_blt, wT_blt, wS_ret_blt, wO_pop, wE_pop, wT_pop, wS_ret_pop, wO_setLen, wE_setLen, wT_setLen, wS_ret_setLen, wO_isT, wE_isT, wT_isT, wS_ret_isT, wO_comp, wE_comp, wT_comp, wS_ret_comp, wO_nref, wE_nref, wT_nref, wS_ret_nref, wO_idxOf, wE_idxOf, wT_idxOf, wS_ret_idxOf, wT_var, wA_nil, wA_cons, wOs_nil, wOs_cons, wI_seq, wI_rng, wI_enm, wSs_nil, wSs_cons, wS_asg, wS_unp, wS_par, wS_setI, wS_app, wS_ex, wS_ifS, wS_whl, wS_forS, wS_retN, wS_pass, wS_brk, wS_cnt, wS_nvr, wS_rse, wS_tryE, wOp_some, wOp_none, wOq_some, wOq_none, wN_some, wN_none, wRt_some, wRt_none, wIf_true, wIf_false, wGd_true, wGd_false, varO, opO, retO, pv2, pv1, pvB, pvI, cutO, rvB, isOwnL, isAppL, popO, nrefO, isLO, rngO, enmO, setTO, setIO, appO2, Qs.seq_nx, Qs.seq_rt, Qs.seq_bk, Qs.seq_ct, Qs.seq_ex, Qs.fin_nx, Qs.fin_rt, Qs.fin_ex, entryE, deref, derefV, vw, derefs, op2, cmp_lt, cmp_le, cmp_gt, cmp_ge, cmp_isN, cmp_notN, cmp_eq_ii, cmp_ne_ii, cmp_eq_ni, cmp_ne_ni, cmp_eq_ss, cmp_ne_ss, cmp_in_t, cmp_in_l, cmp_nin_l, cmp_nin_t, okds_s, okds_t, okds_l, okds_i, okds_n, okdc_nil, okdc_cons, okdc_non, okdc_bl, okdc_int, okdc_str, cmp_eq_l0, cmp_ne_l0, cmp_eq_t0, cmp_ne_t0, sl1_t, sl1_l, isNonW, idx2, atI, ixN, blt1, truth, RV.w, slOf, toI, items, isLst, setT, setTs, vB, mulOk, rngOk_small, szOk_small, wHr_nil, wHr_cons, hrO, hAsg, hev, hevs, inE, offE, keepV_n0, keepV_nn, keepV_v, keepV_o]
      have hr0 : 0 < r.length := List.length_pos_iff.mpr (by simpa using hc)
      refine taken_w hT hR (by omega) (by omega) fun v S3 hS3 v0 v1 => ?_
      obtain ⟨n, rfl⟩ := Int.eq_ofNat_of_zero_le v0
      have hn : n < r.length := by omega
      have hz : szOk (b.length + 1) = true := szOk_small (by omega)
      simp [wE_var, wO_var, wS_retV, wT_andE, wT_orE, wT_notE, wO_non, wE_non, wT_non, wS_ret_non, wO_bl, wE_bl, wT_bl, wS_ret_bl, wO_int, wE_int, wT_int, wS_ret_int, wO_str, wE_str, wT_str, wS_ret_str, wO_tup, wE_tup, wT_tup, wS_ret_tup, wO_lst, wE_lst, wT_lst, wS_ret_lst, wO_bin, wE_bin, wT_bin, wS_ret_bin, wO_cmp, wE_cmp, wT_cmp, wS_ret_cmp, wO_andE, wE_andE, wS_ret_andE, wO_orE, wE_orE, wS_ret_orE, wO_notE, wE_notE, wS_ret_notE, wO_ifE, wE_ifE, wT_ifE, wS_ret_ifE, wO_idx, wE_idx, wT_idx, wS_ret_idx, wO_sfrom, wE_sfrom, wT_sfrom, wS_ret_sfrom, wO_upto, wE_upto, wT_upto, wS_ret_upto, wO_cut, wE_cut, wT_cut, wS_ret_cut, wO_rev, wE_rev, wT_rev, wS_ret_rev, wO_call, wE_call, wT_call, wS_ret_call, wO_blt, wE_blt, wT_blt, wS_ret_blt, wO_pop, wE_pop, wT_pop, wS_ret_pop, wO_setLen, wE_setLen, wT_setLen, wS_ret_setLen, wO_isT, wE_isT, wT_isT, wS_ret_isT, wO_comp, wE_comp, wT_comp, wS_ret_comp, wO_nref, wE_nref, wT_nref, wS_ret_nref, wO_idxOf, wE_idxOf, wT_idxOf, wS_ret_idxOf, wT_var, wA_nil, wA_cons, wOs_nil, wOs_cons, wI_seq, wI_rng, wI_enm, wSs_nil, wSs_cons, wS_asg, wS_unp, wS_par, wS_setI, wS_app, wS_ex, wS_ifS, wS_whl, wS_forS, wS_retN, wS_pass, wS_brk, wS_cnt, wS_nvr, wS_rse, wS_tryE, wOp_some, wOp_none, wOq_some, wOq_none, wN_some, wN_none, wRt_some, wRt_none, wIf_true, wIf_false, wGd_true, wGd_false, varO, opO, retO, pv2, pv1, pvB, pvI, cutO, rvB, isOwnL, isAppL, popO, nrefO, isLO, rngO, enmO, setTO, setIO, appO2, Qs.seq_nx, Qs.seq_rt, Qs.seq_bk, Qs.seq_ct, Qs.seq_ex, Qs.fin_nx, Qs.fin_rt, Qs.fin_ex, entryE, deref, derefV, vw, derefs, op2, cmp_lt, cmp_le, cmp_gt, cmp_ge, cmp_isN, cmp_notN, cmp_eq_ii, cmp_ne_ii, cmp_eq_ni, cmp_ne_ni, cmp_eq_ss, cmp_ne_ss, cmp_in_t, cmp_in_l, cmp_nin_l, cmp_nin_t, okds_s, okds_t, okds_l, okds_i, okds_n, okdc_nil, okdc_cons, okdc_non, okdc_bl, okdc_int, okdc_str, cmp_eq_l0, cmp_ne_l0, cmp_eq_t0, cmp_ne_t0, sl1_t, sl1_l, isNonW, idx2, atI, ixN, blt1, truth, RV.w, slOf, toI, items, isLst, setT, setTs, vB, mulOk, rngOk_small, szOk_small, wHr_nil, wHr_cons, hrO, hAsg, hev, hevs, inE, offE, keepV_n0, keepV_nn, keepV_v, keepV_o, hn, hz]
      rw [er_map, show List.map W.str b ++ [W.str r[n]] = sW (b ++ [r[n]]) from (List.map_append (l₁ := b) (l₂ := [r[n]])).symm]
      exact ⟨_, _, _, _, rfl, hS3, (perm_pick hn).trans hp⟩
    · simp [wE_var, wO_var, wS_retV, wT_andE, wT_orE, wT_notE, wO_non, wE_non, wT_non, wS_ret_non, wO_bl, wE_bl, wT_bl, wS_ret_bl, wO_int, wE_int, wT_int, wS_ret_int, wO_str, wE_str, wT_str, wS_ret_str, wO_tup, wE_tup, wT_tup, wS_ret_tup, wO_lst, wE_lst, wT_lst, wS_ret_lst, wO_bin, wE_bin, wT_bin, wS_ret_bin, wO_cmp, wE_cmp, wT_cmp, wS_ret_cmp, wO_andE, wE_andE, wS_ret_andE, wO_orE, wE_orE, wS_ret_orE, wO_notE, wE_notE, wS_ret_notE, wO_ifE, wE_ifE, wT_ifE, wS_ret_ifE, wO_idx, wE_idx, wT_idx, wS_ret_idx, wO_sfrom, wE_sfrom, wT_sfrom, wS_ret_sfrom, wO_upto, wE_upto, wT_upto, wS_ret_upto, wO_cut, wE_cut, wT_cut, wS_ret_cut, wO_rev, wE_rev, wT_rev, wS_ret_rev, wO_call, wE_call, wT_call, wS_ret_call, wO_blt, wE_blt, wT_blt, wS_ret_blt, wO_pop, wE_pop, wT_pop, wS_ret_pop, wO_setLen, wE_setLen, wT_setLen, wS_ret_setLen, wO_isT, wE_isT, wT_isT, wS_ret_isT, wO_comp, wE_comp, wT_comp, wS_ret_comp, wO_nref, wE_nref, wT_nref, wS_ret_nref, wO_idxOf, wE_idxOf, wT_idxOf, wS_ret_idxOf, wT_var, wA_nil, wA_cons, wOs_nil, wOs_cons, wI_seq, wI_rng, wI_enm, wSs_nil, wSs_cons, wS_asg, wS_unp, wS_par, wS_setI, wS_app, wS_ex, wS_ifS, wS_whl, wS_forS, wS_retN, wS_pass, wS_brk, wS_cnt, wS_nvr, wS_rse, wS_tryE, wOp_some, wOp_none, wOq_some, wOq_none, wN_some, wN_none, wRt_some, wRt_none, wIf_true, wIf_false, wGd_true, wGd_false, varO, opO, retO, pv2, pv1, pvB, pvI, cutO, rvB, isOwnL, isAppL, popO, nrefO, isLO, rngO, enmO, setTO, setIO, appO2, Qs.seq_nx, Qs.seq_rt, Qs.seq_bk, Qs.seq_ct, Qs.seq_ex, Qs.fin_nx, Qs.fin_rt, Qs.fin_ex, entryE, deref, derefV, vw, derefs, op2, cmp_lt, cmp_le, cmp_gt, cmp_ge, cmp_isN, cmp_notN, cmp_eq_ii, cmp_ne_ii, cmp_eq_ni, cmp_ne_ni, cmp_eq_ss, cmp_ne_ss, cmp_in_t, cmp_in_l, cmp_nin_l, cmp_nin_t, okds_s, okds_t, okds_l, okds_i, okds_n, okdc_nil, okdc_cons, okdc_non, okdc_bl, okdc_int, okdc_str, cmp_eq_l0, cmp_ne_l0, cmp_eq_t0, cmp_ne_t0, sl1_t, sl1_l, isNonW, idx2, atI, ixN, blt1, truth, RV.w, slOf, toI, items, isLst, setT, setTs, vB, mulOk, rngOk_small, szOk_small, wHr_nil, wHr_cons, hrO, hAsg, hev, hevs, inE, offE, keepV_n0, keepV_nn, keepV_v, keepV_o]
      exact ⟨_, _, _, _, rfl, hR, hp⟩
  · rintro st ⟨r, b, S', o, rfl, hR, hp⟩
    simp [wE_var, wO_var, wS_retV, wT_andE, wT_orE, wT_notE, wO_non, wE_non, wT_non, wS_ret_non, wO_bl, wE_bl, wT_bl, wS_ret_bl, wO_int, wE_int, wT_int, wS_ret_int, wO_str, wE_str, wT_str, wS_ret_str, wO_tup, wE_tup, wT_tup, wS_ret_tup, wO_lst, wE_lst, wT_lst, wS_ret_lst, wO_bin, wE_bin, wT_bin, wS_ret_bin, wO_cmp, wE_cmp, wT_cmp, wS_ret_cmp, wO_andE, wE_andE, wS_ret_andE, wO_orE, wE_orE, wS_ret_orE, wO_notE, wE_notE, wS_ret_notE, wO_ifE, wE_ifE, wT_ifE, wS_ret_ifE, wO_idx, wE_idx, wT_idx, wS_ret_idx, wO_sfrom, wE_sfrom, wT_sfrom, wS_ret_sfrom, wO_upto, wE_upto, wT_upto, wS_ret_upto, wO_cut, wE_cut, wT_cut, wS_ret_cut, wO_rev, wE_rev, wT_rev, wS_ret_rev, wO_call, wE_call, wT_call, wS_ret_call, wO_blt, wE_blt, wT_blt, wS_ret_blt, wO_pop, wE_pop, wT_pop, wS_ret_pop, wO_setLen, wE_setLen, wT_setLen, wS_ret_setLen, wO_isT, wE_isT, wT_isT, wS_ret_isT, wO_comp, wE_comp, wT_comp, wS_ret_comp, wO_nref, wE_nref, wT_nref, wS_ret_nref, wO_idxOf, wE_idxOf, wT_idxOf, wS_ret_idxOf, wT_var, wA_nil, wA_cons, wOs_nil, wOs_cons, wI_seq, wI_rng, wI_enm, wSs_nil, wSs_cons, wS_asg, wS_unp, wS_par, wS_setI, wS_app, wS_ex, wS_ifS, wS_whl, wS_forS, wS_retN, wS_pass, wS_brk, wS_cnt, wS_nvr, wS_rse, wS_tryE, wOp_some, wOp_none, wOq_some, wOq_none, wN_some, wN_none, wRt_some, wRt_none, wIf_true, wIf_false, wGd_true, wGd_false, varO, opO, retO, pv2, pv1, pvB, pvI, cutO, rvB, isOwnL, isAppL, popO, nrefO, isLO, rngO, enmO, setTO, setIO, appO2, Qs.seq_nx, Qs.seq_rt, Qs.seq_bk, Qs.seq_ct, Qs.seq_ex, Qs.fin_nx, Qs.fin_rt, Qs.fin_ex, entryE, deref, derefV, vw, derefs, op2, cmp_lt, cmp_le, cmp_gt, cmp_ge, cmp_isN, cmp_notN, cmp_eq_ii, cmp_ne_ii, cmp_eq_ni, cmp_ne_ni, cmp_eq_ss, cmp_ne_ss, cmp_in_t, cmp_in_l, cmp_nin_l, cmp_nin_t, okds_s, okds_t, okds_l, okds_i, okds_n, okdc_nil, okdc_cons, okdc_non, okdc_bl, okdc_int, okdc_str, cmp_eq_l0, cmp_ne_l0, cmp_eq_t0, cmp_ne_t0, sl1_t, sl1_l, isNonW, idx2, atI, ixN, blt1, truth, RV.w, slOf, toI, items, isLst, setT, setTs, vB, mulOk, rngOk_small, szOk_small, wHr_nil, wHr_cons, hrO, hAsg, hev, hevs, inE, offE, keepV_n0, keepV_nn, keepV_v, keepV_o]
    exact h b S' hR ⟨r, hp⟩
end
end LB

set_option Elab.async false
set_option linter.all false
set_option maxRecDepth 100000
set_option maxHeartbeats 4000000
/-! LM: the merge. -/
namespace LB
open PySem L2 LL Fn Mrg
section
variable {T : FT} {k : Nat} {S : List SO} {q : Cc} {x : Xc}
/-- the row that blocks -/
theorem blocking_w {rest : List (List Str)} {a : Str} (hP : T.lookup 0 = some f_blocking_list) (h0 : blk rest a = false → q.k (.v .non) S) (h1 : ∀ r ∈ rest, a ∈ r.tail → q.k (.v (tW r)) S) : @wK (callN T (k + 1) 0 [.lst (rest.map tW), .str a] S) q x := by
  refine wK_enter hP rfl ?_
  unfold f_blocking_list
  simp [wE_var, wO_var, wS_retV, wT_andE, wT_orE, wT_notE, wO_non, wE_non, wT_non, wS_ret_non, wO_bl, wE_bl, wT_bl, wS_ret_bl, wO_int, wE_int, wT_int, wS_ret_int, wO_str, wE_str, wT_str, wS_ret_str, wO_tup, wE_tup, wT_tup, wS_ret_tup, wO_lst, wE_lst, wT_lst, wS_ret_lst, wO_bin, wE_bin, wT_bin, wS_ret_bin, wO_cmp, wE_cmp, wT_cmp, wS_ret_cmp, wO_andE, wE_andE, wS_ret_andE, wO_orE, wE_orE, wS_ret_orE, wO_notE, wE_notE, wS_ret_notE, wO_ifE, wE_ifE, wT_ifE, wS_ret_ifE, wO_idx, wE_idx, wT_idx, wS_ret_idx, wO_sfrom, wE_sfrom, wT_sfrom, wS_ret_sfrom, wO_upto, wE_upto, wT_upto, wS_ret_upto, wO_cut, wE_cut, wT_cut, wS_ret_cut, wO_rev, wE_rev, wT_rev, wS_ret_rev, wO_call, wE_call, wT_call, wS_ret_call, wO_blt, wE_blt, wT_blt, wS_ret_blt, wO_pop, wE_pop, wT_pop, wS_ret_pop, wO_setLen, wE_setLen, wT_setLen, wS_ret_setLen, wO_isT, wE_isT, wT_isT, wS_ret_isT, wO_comp, wE_comp, wT_comp, wS_ret_comp, wO_nref, wE_nref, wT_nref, wS_ret_nref, wO_idxOf, wE_idxOf, wT_idxOf, wS_ret_idxOf, wT_var, wA_nil, wA_cons, wOs_nil, wOs_cons, wI_seq, wI_rng, wI_enm, wSs_nil, wSs_cons, wS_asg, wS_unp, wS_par, wS_setI, wS_app, wS_ex, wS_ifS, wS_whl, wS_forS, wS_retN, wS_pass, wS_brk, wS_cnt, wS_nvr, wS_rse, wS_tryE, wOp_some, wOp_none, wOq_some, wOq_none, wN_some, wN_none, wRt_some, wRt_none, wIf_true, wIf_false, wGd_true, wGd_false, varO, opO, retO, pv2, pv1, pvB, pvI, cutO, rvB, isOwnL, isAppL, popO, nrefO, isLO, rngO, enmO, setTO, setIO, appO2, Qs.seq_nx, Qs.seq_rt, Qs.seq_bk, Qs.seq_ct, Qs.seq_ex, Qs.fin_nx, Qs.fin_rt, Qs.fin_ex, entryE, deref, derefV, vw, derefs, op2, cmp_lt, cmp_le, cmp_gt, cmp_ge, cmp_isN, cmp_notN, cmp_eq_ii, cmp_ne_ii, cmp_eq_ni, cmp_ne_ni, cmp_eq_ss, cmp_ne_ss, cmp_in_t, cmp_in_l, cmp_nin_l, cmp_nin_t, okds_s, okds_t, okds_l, okds_i, okds_n, okdc_nil, okdc_cons, okdc_non, okdc_bl, okdc_int, okdc_str, cmp_eq_l0, cmp_ne_l0, cmp_eq_t0, cmp_ne_t0, sl1_t, sl1_l, isNonW, idx2, atI, ixN, blt1, truth, RV.w, slOf, toI, items, isLst, setT, setTs, vB, mulOk, rngOk_small, szOk_small, wHr_nil, wHr_cons, hrO, hAsg, hev, hevs, inE, offE, keepV_n0, keepV_nn, keepV_v, keepV_o]
  refine wFor_inv (enc := tW) (all := rest) (fun pre post st => ∃ (o : Option Sl), st = ⟨[some (.val (.lst (rest.map tW))), some (.val (.str a)), o], S⟩ ∧ blk pre a = false) ?_ ?_ ?_
  · exact ⟨_, rfl, rfl⟩
  · rintro pre y post st e ⟨o, rfl, hp⟩
    simp [wE_var, wO_var, wS_retV, wT_andE, wT_orE, wT_notE, wO_non, wE_non, wT_non, wS_ret_non, wO_bl, wE_bl, wT_bl, wS_ret_bl, wO_int, wE_int, wT_int, wS_ret_int, wO_str, wE_str, wT_str, wS_ret_str, wO_tup, wE_tup, wT_tup, wS_ret_tup, wO_lst, wE_lst, wT_lst, wS_ret_lst, wO_bin, wE_bin, wT_bin, wS_ret_bin, wO_cmp, wE_cmp, wT_cmp, wS_ret_cmp, wO_andE, wE_andE, wS_ret_andE, wO_orE, wE_orE, wS_ret_orE, wO_notE, wE_notE, wS_ret_notE, wO_ifE, wE_ifE, wT_ifE, wS_ret_ifE, wO_idx, wE_idx, wT_idx, wS_ret_idx, wO_sfrom, wE_sfrom, wT_sfrom, wS_ret_sfrom, wO_upto, wE_upto, wT_upto, wS_ret_upto, wO_cut, wE_cut, wT_cut, wS_ret_cut, wO_rev, wE_rev, wT_rev, wS_ret_rev, wO_call, wE_call, wT_call, wS_ret_call, wO_blt, wE_blt, wT_blt, wS_ret_blt, wO_pop, wE_pop, wT_pop, wS_ret_pop, wO_setLen, wE_setLen, wT_setLen, wS_ret_setLen, wO_isT, wE_isT, wT_isT, wS_ret_isT, wO_comp, wE_comp, wT_comp, wS_ret_comp, wO_nref, wE_nref, wT_nref, wS_ret_nref, wO_idxOf, wE_idxOf, wT_idxOf, wS_ret_idxOf, wT_var, wA_nil, wA_cons, wOs_nil, wOs_cons, wI_seq, wI_rng, wI_enm, wSs_nil, wSs_cons, wS_asg, wS_unp, wS_par, wS_setI, wS_app, wS_ex, wS_ifS, wS_whl, wS_forS, wS_retN, wS_pass, wS_brk, wS_cnt, wS_nvr, wS_rse, wS_tryE, wOp_some, wOp_none, wOq_some, wOq_none, wN_some, wN_none, wRt_some, wRt_none, wIf_true, wIf_false, wGd_true, wGd_false, varO, opO, retO, pv2, pv1, pvB, pvI, cutO, rvB, isOwnL, isAppL, popO, nrefO, isLO, rngO, enmO, setTO, setIO, appO2, Qs.seq_nx, Qs.seq_rt, Qs.seq_bk, Qs.seq_ct, Qs.seq_ex, Qs.fin_nx, Qs.fin_rt, Qs.fin_ex, entryE, deref, derefV, vw, derefs, op2, cmp_lt, cmp_le, cmp_gt, cmp_ge, cmp_isN, cmp_notN, cmp_eq_ii, cmp_ne_ii, cmp_eq_ni, cmp_ne_ni, cmp_eq_ss, cmp_ne_ss, cmp_in_t, cmp_in_l, cmp_nin_l, cmp_nin_t, okds_s, okds_t, okds_l, okds_i, okds_n, okdc_nil, okdc_cons, okdc_non, okdc_bl, okdc_int, okdc_str, cmp_eq_l0, cmp_ne_l0, cmp_eq_t0, cmp_ne_t0, sl1_t, sl1_l, isNonW, idx2, atI, ixN, blt1, truth, RV.w, slOf, toI, items, isLst, setT, setTs, vB, mulOk, rngOk_small, szOk_small, wHr_nil, wHr_cons, hrO, hAsg, hev, hevs, inE, offE, keepV_n0, keepV_nn, keepV_v, keepV_o, -List.map_tail, ← List.map_tail]
    refine wIf_split (fun hc => ?_) (fun hc => ?_)
    · simp [wE_var, wO_var, wS_retV, wT_andE, wT_orE, wT_notE, wO_non, wE_non, wT_non, wS_ret_non, wO_bl, wE_bl, wT_bl, wS_ret_bl, wO_int, wE_int, wT_int, wS_ret_int, wO_str, wE_str, wT_str, wS_ret_str, wO_tup, wE_tup, wT_tup, wS_ret_tup, wO_lst, wE_lst, wT_lst, wS_ret_lst, wO_bin, wE_bin, wT_bin, wS_ret_bin, wO_cmp, wE_cmp, wT_cmp, wS_ret_cmp, wO_andE, wE_andE, wS_ret_andE, wO_orE, wE_orE, wS_ret_orE, wO_notE, wE_notE, wS_ret_notE, wO_ifE, wE_ifE, wT_ifE, wS_ret_ifE, wO_idx, wE_idx, wT_idx, wS_ret_idx, wO_sfrom, wE_sfrom, wT_sfrom, wS_ret_sfrom, wO_upto, wE_upto, wT_upto, wS_ret_upto, wO_cut, wE_cut, wT_cut, wS_ret_cut, wO_rev, wE_rev, wT_rev, wS_ret_rev, wO_call, wE_call, wT_call, wS_ret_call, wO_blt, wE_blt, wT_blt, wS_ret_blt, wO_pop, wE_pop, wT_pop, wS_ret_pop, wO_setLen, wE_setLen, wT_setLen, wS_ret_setLen, wO_isT, wE_isT, wT_isT, wS_ret_isT, wO_comp, wE_comp, wT_comp, wS_ret_comp, wO_nref, wE_nref, wT_nref, wS_ret_nref, wO_idxOf, wE_idxOf, wT_idxOf, wS_ret_idxOf, wT_var, wA_nil, wA_cons, wOs_nil, wOs_cons, wI_seq, wI_rng, wI_enm, wSs_nil, wSs_cons, wS_asg, wS_unp, wS_par, wS_setI, wS_app, wS_ex, wS_ifS, wS_whl, wS_forS, wS_retN, wS_pass, wS_brk, wS_cnt, wS_nvr, wS_rse, wS_tryE, wOp_some, wOp_none, wOq_some, wOq_none, wN_some, wN_none, wRt_some, wRt_none, wIf_true, wIf_false, wGd_true, wGd_false, varO, opO, retO, pv2, pv1, pvB, pvI, cutO, rvB, isOwnL, isAppL, popO, nrefO, isLO, rngO, enmO, setTO, setIO, appO2, Qs.seq_nx, Qs.seq_rt, Qs.seq_bk, Qs.seq_ct, Qs.seq_ex, Qs.fin_nx, Qs.fin_rt, Qs.fin_ex, entryE, deref, derefV, vw, derefs, op2, cmp_lt, cmp_le, cmp_gt, cmp_ge, cmp_isN, cmp_notN, cmp_eq_ii, cmp_ne_ii, cmp_eq_ni, cmp_ne_ni, cmp_eq_ss, cmp_ne_ss, cmp_in_t, cmp_in_l, cmp_nin_l, cmp_nin_t, okds_s, okds_t, okds_l, okds_i, okds_n, okdc_nil, okdc_cons, okdc_non, okdc_bl, okdc_int, okdc_str, cmp_eq_l0, cmp_ne_l0, cmp_eq_t0, cmp_ne_t0, sl1_t, sl1_l, isNonW, idx2, atI, ixN, blt1, truth, RV.w, slOf, toI, items, isLst, setT, setTs, vB, mulOk, rngOk_small, szOk_small, wHr_nil, wHr_cons, hrO, hAsg, hev, hevs, inE, offE, keepV_n0, keepV_nn, keepV_v, keepV_o]
      exact h1 y (by simp [e]) (of_decide_eq_true hc)
    · simp [wE_var, wO_var, wS_retV, wT_andE, wT_orE, wT_notE, wO_non, wE_non, wT_non, wS_ret_non, wO_bl, wE_bl, wT_bl, wS_ret_bl, wO_int, wE_int, wT_int, wS_ret_int, wO_str, wE_str, wT_str, wS_ret_str, wO_tup, wE_tup, wT_tup, wS_ret_tup, wO_lst, wE_lst, wT_lst, wS_ret_lst, wO_bin, wE_bin, wT_bin, wS_ret_bin, wO_cmp, wE_cmp, wT_cmp, wS_ret_cmp, wO_andE, wE_andE, wS_ret_andE, wO_orE, wE_orE, wS_ret_orE, wO_notE, wE_notE, wS_ret_notE, wO_ifE, wE_ifE, wT_ifE, wS_ret_ifE, wO_idx, wE_idx, wT_idx, wS_ret_idx, wO_sfrom, wE_sfrom, wT_sfrom, wS_ret_sfrom, wO_upto, wE_upto, wT_upto, wS_ret_upto, wO_cut, wE_cut, wT_cut, wS_ret_cut, wO_rev, wE_rev, wT_rev, wS_ret_rev, wO_call, wE_call, wT_call, wS_ret_call, wO_blt, wE_blt, wT_blt, wS_ret_blt, wO_pop, wE_pop, wT_pop, wS_ret_pop, wO_setLen, wE_setLen, wT_setLen, wS_ret_setLen, wO_isT, wE_isT, wT_isT, wS_ret_isT, wO_comp, wE_comp, wT_comp, wS_ret_comp, wO_nref, wE_nref, wT_nref, wS_ret_nref, wO_idxOf, wE_idxOf, wT_idxOf, wS_ret_idxOf, wT_var, wA_nil, wA_cons, wOs_nil, wOs_cons, wI_seq, wI_rng, wI_enm, wSs_nil, wSs_cons, wS_asg, wS_unp, wS_par, wS_setI, wS_app, wS_ex, wS_ifS, wS_whl, wS_forS, wS_retN, wS_pass, wS_brk, wS_cnt, wS_nvr, wS_rse, wS_tryE, wOp_some, wOp_none, wOq_some, wOq_none, wN_some, wN_none, wRt_some, wRt_none, wIf_true, wIf_false, wGd_true, wGd_false, varO, opO, retO, pv2, pv1, pvB, pvI, cutO, rvB, isOwnL, isAppL, popO, nrefO, isLO, rngO, enmO, setTO, setIO, appO2, Qs.seq_nx, Qs.seq_rt, Qs.seq_bk, Qs.seq_ct, Qs.seq_ex, Qs.fin_nx, Qs.fin_rt, Qs.fin_ex, entryE, deref, derefV, vw, derefs, op2, cmp_lt, cmp_le, cmp_gt, cmp_ge, cmp_isN, cmp_notN, cmp_eq_ii, cmp_ne_ii, cmp_eq_ni, cmp_ne_ni, cmp_eq_ss, cmp_ne_ss, cmp_in_t, cmp_in_l, cmp_nin_l, cmp_nin_t, okds_s, okds_t, okds_l, okds_i, okds_n, okdc_nil, okdc_cons, okdc_non, okdc_bl, okdc_int, okdc_str, cmp_eq_l0, cmp_ne_l0, cmp_eq_t0, cmp_ne_t0, sl1_t, sl1_l, isNonW, idx2, atI, ixN, blt1, truth, RV.w, slOf, toI, items, isLst, setT, setTs, vB, mulOk, rngOk_small, szOk_small, wHr_nil, wHr_cons, hrO, hAsg, hev, hevs, inE, offE, keepV_n0, keepV_nn, keepV_v, keepV_o]
      refine ⟨_, rfl, ?_⟩
      unfold blk at hp ⊢
      rw [List.any_append, hp]
      simpa using hc
  · rintro st ⟨o, rfl, hp⟩
    simp [wE_var, wO_var, wS_retV, wT_andE, wT_orE, wT_notE, wO_non, wE_non, wT_non, wS_ret_non, wO_bl, wE_bl, wT_bl, wS_ret_bl, wO_int, wE_int, wT_int, wS_ret_int, wO_str, wE_str, wT_str, wS_ret_str, wO_tup, wE_tup, wT_tup, wS_ret_tup, wO_lst, wE_lst, wT_lst, wS_ret_lst, wO_bin, wE_bin, wT_bin, wS_ret_bin, wO_cmp, wE_cmp, wT_cmp, wS_ret_cmp, wO_andE, wE_andE, wS_ret_andE, wO_orE, wE_orE, wS_ret_orE, wO_notE, wE_notE, wS_ret_notE, wO_ifE, wE_ifE, wT_ifE, wS_ret_ifE, wO_idx, wE_idx, wT_idx, wS_ret_idx, wO_sfrom, wE_sfrom, wT_sfrom, wS_ret_sfrom, wO_upto, wE_upto, wT_upto, wS_ret_upto, wO_cut, wE_cut, wT_cut, wS_ret_cut, wO_rev, wE_rev, wT_rev, wS_ret_rev, wO_call, wE_call, wT_call, wS_ret_call, wO_blt, wE_blt, wT_blt, wS_ret_blt, wO_pop, wE_pop, wT_pop, wS_ret_pop, wO_setLen, wE_setLen, wT_setLen, wS_ret_setLen, wO_isT, wE_isT, wT_isT, wS_ret_isT, wO_comp, wE_comp, wT_comp, wS_ret_comp, wO_nref, wE_nref, wT_nref, wS_ret_nref, wO_idxOf, wE_idxOf, wT_idxOf, wS_ret_idxOf, wT_var, wA_nil, wA_cons, wOs_nil, wOs_cons, wI_seq, wI_rng, wI_enm, wSs_nil, wSs_cons, wS_asg, wS_unp, wS_par, wS_setI, wS_app, wS_ex, wS_ifS, wS_whl, wS_forS, wS_retN, wS_pass, wS_brk, wS_cnt, wS_nvr, wS_rse, wS_tryE, wOp_some, wOp_none, wOq_some, wOq_none, wN_some, wN_none, wRt_some, wRt_none, wIf_true, wIf_false, wGd_true, wGd_false, varO, opO, retO, pv2, pv1, pvB, pvI, cutO, rvB, isOwnL, isAppL, popO, nrefO, isLO, rngO, enmO, setTO, setIO, appO2, Qs.seq_nx, Qs.seq_rt, Qs.seq_bk, Qs.seq_ct, Qs.seq_ex, Qs.fin_nx, Qs.fin_rt, Qs.fin_ex, entryE, deref, derefV, vw, derefs, op2, cmp_lt, cmp_le, cmp_gt, cmp_ge, cmp_isN, cmp_notN, cmp_eq_ii, cmp_ne_ii, cmp_eq_ni, cmp_ne_ni, cmp_eq_ss, cmp_ne_ss, cmp_in_t, cmp_in_l, cmp_nin_l, cmp_nin_t, okds_s, okds_t, okds_l, okds_i, okds_n, okdc_nil, okdc_cons, okdc_non, okdc_bl, okdc_int, okdc_str, cmp_eq_l0, cmp_ne_l0, cmp_eq_t0, cmp_ne_t0, sl1_t, sl1_l, isNonW, idx2, atI, ixN, blt1, truth, RV.w, slOf, toI, items, isLst, setT, setTs, vB, mulOk, rngOk_small, szOk_small, wHr_nil, wHr_cons, hrO, hAsg, hev, hevs, inE, offE, keepV_n0, keepV_nn, keepV_v, keepV_o]
    exact h0 hp
theorem findW_s {a : Str} : ∀ {xs : List Str}, a ∈ xs → ∃ j, j < xs.length ∧ findW (.str a) (sW xs) = some j
  | y :: ys, h => by
    show ∃ j, j < ys.length + 1 ∧ (if weq (.str y) (.str a) = true then some 0 else (findW (.str a) (sW ys)).map (· + 1)) = some j
    by_cases e : y = a
    · exact ⟨0, by omega, by rw [if_pos (by simp [weq, e])]⟩
    · obtain ⟨j, h1, h2⟩ := findW_s ((List.mem_cons.mp h).resolve_left fun z => e z.symm)
      exact ⟨j + 1, by omega, by rw [if_neg (by simp [weq, e]), h2]; rfl⟩
theorem idxOf_s {a : Str} {xs : List Str} (h : a ∈ xs) : ∃ j, j < xs.length ∧ idxOf2 (lW xs) (.str a) = some (.v (.int (j : Nat))) := by
  obtain ⟨j, h1, h2⟩ := findW_s h
  refine ⟨j, h1, ?_⟩
  have h3 := flat_s xs
  have h4 : flatW (.str a) = true := rfl
  simp only [idxOf2, h3, h4, h2, Bool.and_self, if_true, Option.map_some]
/-- the ring of names that block each other -/
theorem ring_w {rest : List (List Str)} (hB : T.lookup 0 = some f_blocking_list) (hP : T.lookup 2 = some f_ring_of) (hl : rest.length < 1000000) (h0 : rest ≠ []) (hne : ∀ r ∈ rest, r ≠ []) (hb : ∀ r ∈ rest, ∀ a t, r = a :: t → blk rest a = true) (h : ∀ l, q.k (.v (tW l)) S) : @wK (callN T (k + 2) 2 [.lst (rest.map tW)] S) q x := by
  refine wK_enter hP rfl ?_
  unfold f_ring_of
  cases rest with
  | nil => exact (h0 rfl).elim
  | cons r0 rs =>
  cases r0 with
  | nil => exact (hne [] List.mem_cons_self rfl).elim
  | cons a0 t0 =>
  simp only [List.map_cons]
  simp [wE_var, wO_var, wS_retV, wT_andE, wT_orE, wT_notE, wO_non, wE_non, wT_non, wS_ret_non, wO_bl, wE_bl, wT_bl, wS_ret_bl, wO_int, wE_int, wT_int, wS_ret_int, wO_str, wE_str, wT_str, wS_ret_str, wO_tup, wE_tup, wT_tup, wS_ret_tup, wO_lst, wE_lst, wT_lst, wS_ret_lst, wO_bin, wE_bin, wT_bin, wS_ret_bin, wO_cmp, wE_cmp, wT_cmp, wS_ret_cmp, wO_andE, wE_andE, wS_ret_andE, wO_orE, wE_orE, wS_ret_orE, wO_notE, wE_notE, wS_ret_notE, wO_ifE, wE_ifE, wT_ifE, wS_ret_ifE, wO_idx, wE_idx, wT_idx, wS_ret_idx, wO_sfrom, wE_sfrom, wT_sfrom, wS_ret_sfrom, wO_upto, wE_upto, wT_upto, wS_ret_upto, wO_cut, wE_cut, wT_cut, wS_ret_cut, wO_rev, wE_rev, wT_rev, wS_ret_rev, wO_call, wE_call, wT_call, wS_ret_call, wO_blt, wE_blt, wT_blt, wS_ret_blt, wO_pop, wE_pop, wT_pop, wS_ret_pop, wO_setLen, wE_setLen, wT_setLen, wS_ret_setLen, wO_isT, wE_isT, wT_isT, wS_ret_isT, wO_comp, wE_comp, wT_comp, wS_ret_comp, wO_nref, wE_nref, wT_nref, wS_ret_nref, wO_idxOf, wE_idxOf, wT_idxOf, wS_ret_idxOf, wT_var, wA_nil, wA_cons, wOs_nil, wOs_cons, wI_seq, wI_rng, wI_enm, wSs_nil, wSs_cons, wS_asg, wS_unp, wS_par, wS_setI, wS_app, wS_ex, wS_ifS, wS_whl, wS_forS, wS_retN, wS_pass, wS_brk, wS_cnt, wS_nvr, wS_rse, wS_tryE, wOp_some, wOp_none, wOq_some, wOq_none, wN_some, wN_none, wRt_some, wRt_none, wIf_true, wIf_false, wGd_true, wGd_false, varO, opO, retO, pv2, pv1, pvB, pvI, cutO, rvB, isOwnL, isAppL, popO, nrefO, isLO, rngO, enmO, setTO, setIO, appO2, Qs.seq_nx, Qs.seq_rt, Qs.seq_bk, Qs.seq_ct, Qs.seq_ex, Qs.fin_nx, Qs.fin_rt, Qs.fin_ex, entryE, deref, derefV, vw, derefs, op2, cmp_lt, cmp_le, cmp_gt, cmp_ge, cmp_isN, cmp_notN, cmp_eq_ii, cmp_ne_ii, cmp_eq_ni, cmp_ne_ni, cmp_eq_ss, cmp_ne_ss, cmp_in_t, cmp_in_l, cmp_nin_l, cmp_nin_t, okds_s, okds_t, okds_l, okds_i, okds_n, okdc_nil, okdc_cons, okdc_non, okdc_bl, okdc_int, okdc_str, cmp_eq_l0, cmp_ne_l0, cmp_eq_t0, cmp_ne_t0, sl1_t, sl1_l, isNonW, idx2, atI, ixN, blt1, truth, RV.w, slOf, toI, items, isLst, setT, setTs, vB, mulOk, rngOk_small, szOk_small, wHr_nil, wHr_cons, hrO, hAsg, hev, hevs, inE, offE, keepV_n0, keepV_nn, keepV_v, keepV_o]
  generalize hr : (a0 :: t0) :: rs = rest at hl h0 hne hb
  have hw : tW (a0 :: t0) :: List.map tW rs = rest.map tW := by rw [← hr]; rfl
  rw [hw]
  refine wWhl_inv (fun n st => ∃ (names : List Str) (a : Str), st = ⟨[some (.val (.lst (rest.map tW))), some (.own .lst (sW names)), some (.val (.str a))], S⟩ ∧ names.Nodup ∧ (∀ b ∈ names, b ∈ rest.map fun r => r.headD a0) ∧ (∃ t, (a :: t) ∈ rest) ∧ n + names.length = rest.length) rest.length (by unfold FU; omega) ?_ ?_
  · exact ⟨[], a0, rfl, List.nodup_nil, by simp, ⟨t0, by rw [← hr]; exact List.mem_cons_self⟩, by simp⟩
  · rintro n st ⟨names, a, rfl, hn, hm, ⟨t, ht⟩, hlen⟩
    have hle : names.length ≤ rest.length := by
      have := hn.length_le_of_subset hm
      simpa using this
    simp [wE_var, wO_var, wS_retV, wT_andE, wT_orE, wT_notE, wO_non, wE_non, wT_non, wS_ret_non, wO_bl, wE_bl, wT_bl, wS_ret_bl, wO_int, wE_int, wT_int, wS_ret_int, wO_str, wE_str, wT_str, wS_ret_str, wO_tup, wE_tup, wT_tup, wS_ret_tup, wO_lst, wE_lst, wT_lst, wS_ret_lst, wO_bin, wE_bin, wT_bin, wS_ret_bin, wO_cmp, wE_cmp, wT_cmp, wS_ret_cmp, wO_andE, wE_andE, wS_ret_andE, wO_orE, wE_orE, wS_ret_orE, wO_notE, wE_notE, wS_ret_notE, wO_ifE, wE_ifE, wT_ifE, wS_ret_ifE, wO_idx, wE_idx, wT_idx, wS_ret_idx, wO_sfrom, wE_sfrom, wT_sfrom, wS_ret_sfrom, wO_upto, wE_upto, wT_upto, wS_ret_upto, wO_cut, wE_cut, wT_cut, wS_ret_cut, wO_rev, wE_rev, wT_rev, wS_ret_rev, wO_call, wE_call, wT_call, wS_ret_call, wO_blt, wE_blt, wT_blt, wS_ret_blt, wO_pop, wE_pop, wT_pop, wS_ret_pop, wO_setLen, wE_setLen, wT_setLen, wS_ret_setLen, wO_isT, wE_isT, wT_isT, wS_ret_isT, wO_comp, wE_comp, wT_comp, wS_ret_comp, wO_nref, wE_nref, wT_nref, wS_ret_nref, wO_idxOf, wE_idxOf, wT_idxOf, wS_ret_idxOf, wT_var, wA_nil, wA_cons, wOs_nil, wOs_cons, wI_seq, wI_rng, wI_enm, wSs_nil, wSs_cons, wS_asg, wS_unp, wS_par, wS_setI, wS_app, wS_ex, wS_ifS, wS_whl, wS_forS, wS_retN, wS_pass, wS_brk, wS_cnt, wS_nvr, wS_rse, wS_tryE, wOp_some, wOp_none, wOq_some, wOq_none, wN_some, wN_none, wRt_some, wRt_none, wIf_true, wIf_false, wGd_true, wGd_false, varO, opO, retO, pv2, pv1, pvB, pvI, cutO, rvB, isOwnL, isAppL, popO, nrefO, isLO, rngO, enmO, setTO, setIO, appO2, Qs.seq_nx, Qs.seq_rt, Qs.seq_bk, Qs.seq_ct, Qs.seq_ex, Qs.fin_nx, Qs.fin_rt, Qs.fin_ex, entryE, deref, derefV, vw, derefs, op2, cmp_lt, cmp_le, cmp_gt, cmp_ge, cmp_isN, cmp_notN, cmp_eq_ii, cmp_ne_ii, cmp_eq_ni, cmp_ne_ni, cmp_eq_ss, cmp_ne_ss, cmp_in_t, cmp_in_l, cmp_nin_l, cmp_nin_t, okds_s, okds_t, okds_l, okds_i, okds_n, okdc_nil, okdc_cons, okdc_non, okdc_bl, okdc_int, okdc_str, cmp_eq_l0, cmp_ne_l0, cmp_eq_t0, cmp_ne_t0, sl1_t, sl1_l, isNonW, idx2, atI, ixN, blt1, truth, RV.w, slOf, toI, items, isLst, setT, setTs, vB, mulOk, rngOk_small, szOk_small, wHr_nil, wHr_cons, hrO, hAsg, hev, hevs, inE, offE, keepV_n0, keepV_nn, keepV_v, keepV_o]
    refine wIf_split (fun hc => ?_) (fun hc => ?_)
    · have hc : a ∉ names := by simpa using hc
      have hn' : (names ++ [a]).Nodup := by
        rw [List.nodup_append]
        exact ⟨hn, by simp, fun b hb c hc' e => by simp at hc'; subst hc'; subst e; exact hc hb⟩
      have hm' : ∀ b ∈ names ++ [a], b ∈ rest.map fun r => r.headD a0 := by
        intro b hb
        rcases List.mem_append.mp hb with h | h
        · exact hm b h
        · simp at h
          subst h
          exact List.mem_map.mpr ⟨_, ht, rfl⟩
      have hle' : names.length + 1 ≤ rest.length := by
        have := hn'.length_le_of_subset hm'
        simpa using this
      have hz : szOk (names.length + 1) = true := szOk_small (by omega)
      simp [wE_var, wO_var, wS_retV, wT_andE, wT_orE, wT_notE, wO_non, wE_non, wT_non, wS_ret_non, wO_bl, wE_bl, wT_bl, wS_ret_bl, wO_int, wE_int, wT_int, wS_ret_int, wO_str, wE_str, wT_str, wS_ret_str, wO_tup, wE_tup, wT_tup, wS_ret_tup, wO_lst, wE_lst, wT_lst, wS_ret_lst, wO_bin, wE_bin, wT_bin, wS_ret_bin, wO_cmp, wE_cmp, wT_cmp, wS_ret_cmp, wO_andE, wE_andE, wS_ret_andE, wO_orE, wE_orE, wS_ret_orE, wO_notE, wE_notE, wS_ret_notE, wO_ifE, wE_ifE, wT_ifE, wS_ret_ifE, wO_idx, wE_idx, wT_idx, wS_ret_idx, wO_sfrom, wE_sfrom, wT_sfrom, wS_ret_sfrom, wO_upto, wE_upto, wT_upto, wS_ret_upto, wO_cut, wE_cut, wT_cut, wS_ret_cut, wO_rev, wE_rev, wT_rev, wS_ret_rev, wO_call, wE_call, wT_call, wS_ret_call, wO_blt, wE_blt, wT_blt, wS_ret_blt, wO_pop, wE_pop, wT_pop, wS_ret_pop, wO_setLen, wE_setLen, wT_setLen, wS_ret_setLen, wO_isT, wE_isT, wT_isT, wS_ret_isT, wO_comp, wE_comp, wT_comp, wS_ret_comp, wO_nref, wE_nref, wT_nref, wS_ret_nref, wO_idxOf, wE_idxOf, wT_idxOf, wS_ret_idxOf, wT_var, wA_nil, wA_cons, wOs_nil, wOs_cons, wI_seq, wI_rng, wI_enm, wSs_nil, wSs_cons, wS_asg, wS_unp, wS_par, wS_setI, wS_app, wS_ex, wS_ifS, wS_whl, wS_forS, wS_retN, wS_pass, wS_brk, wS_cnt, wS_nvr, wS_rse, wS_tryE, wOp_some, wOp_none, wOq_some, wOq_none, wN_some, wN_none, wRt_some, wRt_none, wIf_true, wIf_false, wGd_true, wGd_false, varO, opO, retO, pv2, pv1, pvB, pvI, cutO, rvB, isOwnL, isAppL, popO, nrefO, isLO, rngO, enmO, setTO, setIO, appO2, Qs.seq_nx, Qs.seq_rt, Qs.seq_bk, Qs.seq_ct, Qs.seq_ex, Qs.fin_nx, Qs.fin_rt, Qs.fin_ex, entryE, deref, derefV, vw, derefs, op2, cmp_lt, cmp_le, cmp_gt, cmp_ge, cmp_isN, cmp_notN, cmp_eq_ii, cmp_ne_ii, cmp_eq_ni, cmp_ne_ni, cmp_eq_ss, cmp_ne_ss, cmp_in_t, cmp_in_l, cmp_nin_l, cmp_nin_t, okds_s, okds_t, okds_l, okds_i, okds_n, okdc_nil, okdc_cons, okdc_non, okdc_bl, okdc_int, okdc_str, cmp_eq_l0, cmp_ne_l0, cmp_eq_t0, cmp_ne_t0, sl1_t, sl1_l, isNonW, idx2, atI, ixN, blt1, truth, RV.w, slOf, toI, items, isLst, setT, setTs, vB, mulOk, rngOk_small, szOk_small, wHr_nil, wHr_cons, hrO, hAsg, hev, hevs, inE, offE, keepV_n0, keepV_nn, keepV_v, keepV_o, hz]
      refine blocking_w hB (fun hf => ?_) fun r hr' har => ?_
      · rw [hb _ ht _ _ rfl] at hf; cases hf
      · cases r with
        | nil => cases har
        | cons b tb =>
          simp [wE_var, wO_var, wS_retV, wT_andE, wT_orE, wT_notE, wO_non, wE_non, wT_non, wS_ret_non, wO_bl, wE_bl, wT_bl, wS_ret_bl, wO_int, wE_int, wT_int, wS_ret_int, wO_str, wE_str, wT_str, wS_ret_str, wO_tup, wE_tup, wT_tup, wS_ret_tup, wO_lst, wE_lst, wT_lst, wS_ret_lst, wO_bin, wE_bin, wT_bin, wS_ret_bin, wO_cmp, wE_cmp, wT_cmp, wS_ret_cmp, wO_andE, wE_andE, wS_ret_andE, wO_orE, wE_orE, wS_ret_orE, wO_notE, wE_notE, wS_ret_notE, wO_ifE, wE_ifE, wT_ifE, wS_ret_ifE, wO_idx, wE_idx, wT_idx, wS_ret_idx, wO_sfrom, wE_sfrom, wT_sfrom, wS_ret_sfrom, wO_upto, wE_upto, wT_upto, wS_ret_upto, wO_cut, wE_cut, wT_cut, wS_ret_cut, wO_rev, wE_rev, wT_rev, wS_ret_rev, wO_call, wE_call, wT_call, wS_ret_call, wO_blt, wE_blt, wT_blt, wS_ret_blt, wO_pop, wE_pop, wT_pop, wS_ret_pop, wO_setLen, wE_setLen, wT_setLen, wS_ret_setLen, wO_isT, wE_isT, wT_isT, wS_ret_isT, wO_comp, wE_comp, wT_comp, wS_ret_comp, wO_nref, wE_nref, wT_nref, wS_ret_nref, wO_idxOf, wE_idxOf, wT_idxOf, wS_ret_idxOf, wT_var, wA_nil, wA_cons, wOs_nil, wOs_cons, wI_seq, wI_rng, wI_enm, wSs_nil, wSs_cons, wS_asg, wS_unp, wS_par, wS_setI, wS_app, wS_ex, wS_ifS, wS_whl, wS_forS, wS_retN, wS_pass, wS_brk, wS_cnt, wS_nvr, wS_rse, wS_tryE, wOp_some, wOp_none, wOq_some, wOq_none, wN_some, wN_none, wRt_some, wRt_none, wIf_true, wIf_false, wGd_true, wGd_false, varO, opO, retO, pv2, pv1, pvB, pvI, cutO, rvB, isOwnL, isAppL, popO, nrefO, isLO, rngO, enmO, setTO, setIO, appO2, Qs.seq_nx, Qs.seq_rt, Qs.seq_bk, Qs.seq_ct, Qs.seq_ex, Qs.fin_nx, Qs.fin_rt, Qs.fin_ex, entryE, deref, derefV, vw, derefs, op2, cmp_lt, cmp_le, cmp_gt, cmp_ge, cmp_isN, cmp_notN, cmp_eq_ii, cmp_ne_ii, cmp_eq_ni, cmp_ne_ni, cmp_eq_ss, cmp_ne_ss, cmp_in_t, cmp_in_l, cmp_nin_l, cmp_nin_t, okds_s, okds_t, okds_l, okds_i, okds_n, okdc_nil, okdc_cons, okdc_non, okdc_bl, okdc_int, okdc_str, cmp_eq_l0, cmp_ne_l0, cmp_eq_t0, cmp_ne_t0, sl1_t, sl1_l, isNonW, idx2, atI, ixN, blt1, truth, RV.w, slOf, toI, items, isLst, setT, setTs, vB, mulOk, rngOk_small, szOk_small, wHr_nil, wHr_cons, hrO, hAsg, hev, hevs, inE, offE, keepV_n0, keepV_nn, keepV_v, keepV_o]
          rw [show List.map W.str names ++ [W.str a] = sW (names ++ [a]) from (List.map_append (l₁ := names) (l₂ := [a])).symm]
          exact ⟨n - 1, by omega, _, _, rfl, hn', hm', ⟨tb, hr'⟩, by simp; omega⟩
    · have hc : a ∈ names := by simpa using hc
      obtain ⟨j, hj, e⟩ := idxOf_s hc
      have e2 := slf_l (xs := sW names) (n := j) (by simp; omega)
      simp [wE_var, wO_var, wS_retV, wT_andE, wT_orE, wT_notE, wO_non, wE_non, wT_non, wS_ret_non, wO_bl, wE_bl, wT_bl, wS_ret_bl, wO_int, wE_int, wT_int, wS_ret_int, wO_str, wE_str, wT_str, wS_ret_str, wO_tup, wE_tup, wT_tup, wS_ret_tup, wO_lst, wE_lst, wT_lst, wS_ret_lst, wO_bin, wE_bin, wT_bin, wS_ret_bin, wO_cmp, wE_cmp, wT_cmp, wS_ret_cmp, wO_andE, wE_andE, wS_ret_andE, wO_orE, wE_orE, wS_ret_orE, wO_notE, wE_notE, wS_ret_notE, wO_ifE, wE_ifE, wT_ifE, wS_ret_ifE, wO_idx, wE_idx, wT_idx, wS_ret_idx, wO_sfrom, wE_sfrom, wT_sfrom, wS_ret_sfrom, wO_upto, wE_upto, wT_upto, wS_ret_upto, wO_cut, wE_cut, wT_cut, wS_ret_cut, wO_rev, wE_rev, wT_rev, wS_ret_rev, wO_call, wE_call, wT_call, wS_ret_call, wO_blt, wE_blt, wT_blt, wS_ret_blt, wO_pop, wE_pop, wT_pop, wS_ret_pop, wO_setLen, wE_setLen, wT_setLen, wS_ret_setLen, wO_isT, wE_isT, wT_isT, wS_ret_isT, wO_comp, wE_comp, wT_comp, wS_ret_comp, wO_nref, wE_nref, wT_nref, wS_ret_nref, wO_idxOf, wE_idxOf, wT_idxOf, wS_ret_idxOf, wT_var, wA_nil, wA_cons, wOs_nil, wOs_cons, wI_seq, wI_rng, wI_enm, wSs_nil, wSs_cons, wS_asg, wS_unp, wS_par, wS_setI, wS_app, wS_ex, wS_ifS, wS_whl, wS_forS, wS_retN, wS_pass, wS_brk, wS_cnt, wS_nvr, wS_rse, wS_tryE, wOp_some, wOp_none, wOq_some, wOq_none, wN_some, wN_none, wRt_some, wRt_none, wIf_true, wIf_false, wGd_true, wGd_false, varO, opO, retO, pv2, pv1, pvB, pvI, cutO, rvB, isOwnL, isAppL, popO, nrefO, isLO, rngO, enmO, setTO, setIO, appO2, Qs.seq_nx, Qs.seq_rt, Qs.seq_bk, Qs.seq_ct, Qs.seq_ex, Qs.fin_nx, Qs.fin_rt, Qs.fin_ex, entryE, deref, derefV, vw, derefs, op2, cmp_lt, cmp_le, cmp_gt, cmp_ge, cmp_isN, cmp_notN, cmp_eq_ii, cmp_ne_ii, cmp_eq_ni, cmp_ne_ni, cmp_eq_ss, cmp_ne_ss, cmp_in_t, cmp_in_l, cmp_nin_l, cmp_nin_t, okds_s, okds_t, okds_l, okds_i, okds_n, okdc_nil, okdc_cons, okdc_non, okdc_bl, okdc_int, okdc_str, cmp_eq_l0, cmp_ne_l0, cmp_eq_t0, cmp_ne_t0, sl1_t, sl1_l, isNonW, idx2, atI, ixN, blt1, truth, RV.w, slOf, toI, items, isLst, setT, setTs, vB, mulOk, rngOk_small, szOk_small, wHr_nil, wHr_cons, hrO, hAsg, hev, hevs, inE, offE, keepV_n0, keepV_nn, keepV_v, keepV_o, e, e2, revW]
      rw [show (List.drop j (sW names)).reverse = sW ((names.drop j).reverse) by simp [List.map_drop, List.map_reverse]]
      exact h _
theorem fm_ne (l : List (List Str)) : l.filterMap (fun r => if ne r = true then some (tW r) else none) = (l.filter ne).map tW := by
  induction l with
  | nil => rfl
  | cons r l ih =>
    rw [List.filterMap_cons, List.filter_cons, ih]
    cases r <;> simp [ne]
theorem fm_free (rest l : List (List Str)) : l.filterMap (fun r => match r with
    | a :: _ => if blk rest a = true then none else some (W.str a)
    | [] => none) = sW (free rest l) := by
  induction l with
  | nil => rfl
  | cons r l ih =>
    cases r with
    | nil => simp [free] at ih ⊢; exact ih
    | cons a t =>
      simp only [free, List.filterMap_cons] at ih ⊢
      cases h : blk rest a <;> simp [ih]
/-- the merge, its lists given -/
theorem merge_for_w {w0 : W} {lists : List (List Str)} (hB : T.lookup 0 = some f_blocking_list) (hG : T.lookup 2 = some f_ring_of) (hP : T.lookup 3 = some f_merge_for) (hl : lists.length < 100000) (ht : tot lists < 100000)
    (hok : ∀ out, Go (lists.filter ne) out → q.k (.v (tW out)) S) (hx : (¬ ∃ out, Go (lists.filter ne) out) → ∀ l, x.x 1 [("ring", tW l), ("name", w0)] S) : @wK (callN T (k + 3) 3 [w0, .tup (lists.map tW)] S) q x := by
  refine wK_enter hP rfl ?_
  unfold f_merge_for
  simp [wE_var, wO_var, wS_retV, wT_andE, wT_orE, wT_notE, wO_non, wE_non, wT_non, wS_ret_non, wO_bl, wE_bl, wT_bl, wS_ret_bl, wO_int, wE_int, wT_int, wS_ret_int, wO_str, wE_str, wT_str, wS_ret_str, wO_tup, wE_tup, wT_tup, wS_ret_tup, wO_lst, wE_lst, wT_lst, wS_ret_lst, wO_bin, wE_bin, wT_bin, wS_ret_bin, wO_cmp, wE_cmp, wT_cmp, wS_ret_cmp, wO_andE, wE_andE, wS_ret_andE, wO_orE, wE_orE, wS_ret_orE, wO_notE, wE_notE, wS_ret_notE, wO_ifE, wE_ifE, wT_ifE, wS_ret_ifE, wO_idx, wE_idx, wT_idx, wS_ret_idx, wO_sfrom, wE_sfrom, wT_sfrom, wS_ret_sfrom, wO_upto, wE_upto, wT_upto, wS_ret_upto, wO_cut, wE_cut, wT_cut, wS_ret_cut, wO_rev, wE_rev, wT_rev, wS_ret_rev, wO_call, wE_call, wT_call, wS_ret_call, wO_blt, wE_blt, wT_blt, wS_ret_blt, wO_pop, wE_pop, wT_pop, wS_ret_pop, wO_setLen, wE_setLen, wT_setLen, wS_ret_setLen, wO_isT, wE_isT, wT_isT, wS_ret_isT, wO_comp, wE_comp, wT_comp, wS_ret_comp, wO_nref, wE_nref, wT_nref, wS_ret_nref, wO_idxOf, wE_idxOf, wT_idxOf, wS_ret_idxOf, wT_var, wA_nil, wA_cons, wOs_nil, wOs_cons, wI_seq, wI_rng, wI_enm, wSs_nil, wSs_cons, wS_asg, wS_unp, wS_par, wS_setI, wS_app, wS_ex, wS_ifS, wS_whl, wS_forS, wS_retN, wS_pass, wS_brk, wS_cnt, wS_nvr, wS_rse, wS_tryE, wOp_some, wOp_none, wOq_some, wOq_none, wN_some, wN_none, wRt_some, wRt_none, wIf_true, wIf_false, wGd_true, wGd_false, varO, opO, retO, pv2, pv1, pvB, pvI, cutO, rvB, isOwnL, isAppL, popO, nrefO, isLO, rngO, enmO, setTO, setIO, appO2, Qs.seq_nx, Qs.seq_rt, Qs.seq_bk, Qs.seq_ct, Qs.seq_ex, Qs.fin_nx, Qs.fin_rt, Qs.fin_ex, entryE, deref, derefV, vw, derefs, op2, cmp_lt, cmp_le, cmp_gt, cmp_ge, cmp_isN, cmp_notN, cmp_eq_ii, cmp_ne_ii, cmp_eq_ni, cmp_ne_ni, cmp_eq_ss, cmp_ne_ss, cmp_in_t, cmp_in_l, cmp_nin_l, cmp_nin_t, okds_s, okds_t, okds_l, okds_i, okds_n, okdc_nil, okdc_cons, okdc_non, okdc_bl, okdc_int, okdc_str, cmp_eq_l0, cmp_ne_l0, cmp_eq_t0, cmp_ne_t0, sl1_t, sl1_l, isNonW, idx2, atI, ixN, blt1, truth, RV.w, slOf, toI, items, isLst, setT, setTs, vB, mulOk, rngOk_small, szOk_small, wHr_nil, wHr_cons, hrO, hAsg, hev, hevs, inE, offE, keepV_n0, keepV_nn, keepV_v, keepV_o]
  refine wCmp_map (f := tW) (all := lists) (fun r => if ne r = true then some (tW r) else none) (by simp) (fun y hy => ?_) ?_
  · simp [wE_var, wO_var, wS_retV, wT_andE, wT_orE, wT_notE, wO_non, wE_non, wT_non, wS_ret_non, wO_bl, wE_bl, wT_bl, wS_ret_bl, wO_int, wE_int, wT_int, wS_ret_int, wO_str, wE_str, wT_str, wS_ret_str, wO_tup, wE_tup, wT_tup, wS_ret_tup, wO_lst, wE_lst, wT_lst, wS_ret_lst, wO_bin, wE_bin, wT_bin, wS_ret_bin, wO_cmp, wE_cmp, wT_cmp, wS_ret_cmp, wO_andE, wE_andE, wS_ret_andE, wO_orE, wE_orE, wS_ret_orE, wO_notE, wE_notE, wS_ret_notE, wO_ifE, wE_ifE, wT_ifE, wS_ret_ifE, wO_idx, wE_idx, wT_idx, wS_ret_idx, wO_sfrom, wE_sfrom, wT_sfrom, wS_ret_sfrom, wO_upto, wE_upto, wT_upto, wS_ret_upto, wO_cut, wE_cut, wT_cut, wS_ret_cut, wO_rev, wE_rev, wT_rev, wS_ret_rev, wO_call, wE_call, wT_call, wS_ret_call, wO_blt, wE_blt, wT_blt, wS_ret_blt, wO_pop, wE_pop, wT_pop, wS_ret_pop, wO_setLen, wE_setLen, wT_setLen, wS_ret_setLen, wO_isT, wE_isT, wT_isT, wS_ret_isT, wO_comp, wE_comp, wT_comp, wS_ret_comp, wO_nref, wE_nref, wT_nref, wS_ret_nref, wO_idxOf, wE_idxOf, wT_idxOf, wS_ret_idxOf, wT_var, wA_nil, wA_cons, wOs_nil, wOs_cons, wI_seq, wI_rng, wI_enm, wSs_nil, wSs_cons, wS_asg, wS_unp, wS_par, wS_setI, wS_app, wS_ex, wS_ifS, wS_whl, wS_forS, wS_retN, wS_pass, wS_brk, wS_cnt, wS_nvr, wS_rse, wS_tryE, wOp_some, wOp_none, wOq_some, wOq_none, wN_some, wN_none, wRt_some, wRt_none, wIf_true, wIf_false, wGd_true, wGd_false, varO, opO, retO, pv2, pv1, pvB, pvI, cutO, rvB, isOwnL, isAppL, popO, nrefO, isLO, rngO, enmO, setTO, setIO, appO2, Qs.seq_nx, Qs.seq_rt, Qs.seq_bk, Qs.seq_ct, Qs.seq_ex, Qs.fin_nx, Qs.fin_rt, Qs.fin_ex, entryE, deref, derefV, vw, derefs, op2, cmp_lt, cmp_le, cmp_gt, cmp_ge, cmp_isN, cmp_notN, cmp_eq_ii, cmp_ne_ii, cmp_eq_ni, cmp_ne_ni, cmp_eq_ss, cmp_ne_ss, cmp_in_t, cmp_in_l, cmp_nin_l, cmp_nin_t, okds_s, okds_t, okds_l, okds_i, okds_n, okdc_nil, okdc_cons, okdc_non, okdc_bl, okdc_int, okdc_str, cmp_eq_l0, cmp_ne_l0, cmp_eq_t0, cmp_ne_t0, sl1_t, sl1_l, isNonW, idx2, atI, ixN, blt1, truth, RV.w, slOf, toI, items, isLst, setT, setTs, vB, mulOk, rngOk_small, szOk_small, wHr_nil, wHr_cons, hrO, hAsg, hev, hevs, inE, offE, keepV_n0, keepV_nn, keepV_v, keepV_o]
    cases y <;> simp [wE_var, wO_var, wS_retV, wT_andE, wT_orE, wT_notE, wO_non, wE_non, wT_non, wS_ret_non, wO_bl, wE_bl, wT_bl, wS_ret_bl, wO_int, wE_int, wT_int, wS_ret_int, wO_str, wE_str, wT_str, wS_ret_str, wO_tup, wE_tup, wT_tup, wS_ret_tup, wO_lst, wE_lst, wT_lst, wS_ret_lst, wO_bin, wE_bin, wT_bin, wS_ret_bin, wO_cmp, wE_cmp, wT_cmp, wS_ret_cmp, wO_andE, wE_andE, wS_ret_andE, wO_orE, wE_orE, wS_ret_orE, wO_notE, wE_notE, wS_ret_notE, wO_ifE, wE_ifE, wT_ifE, wS_ret_ifE, wO_idx, wE_idx, wT_idx, wS_ret_idx, wO_sfrom, wE_sfrom, wT_sfrom, wS_ret_sfrom, wO_upto, wE_upto, wT_upto, wS_ret_upto, wO_cut, wE_cut, wT_cut, wS_ret_cut, wO_rev, wE_rev, wT_rev, wS_ret_rev, wO_call, wE_call, wT_call, wS_ret_call, wO_blt, wE_blt, wT_blt, wS_ret_blt, wO_pop, wE_pop, wT_pop, wS_ret_pop, wO_setLen, wE_setLen, wT_setLen, wS_ret_setLen, wO_isT, wE_isT, wT_isT, wS_ret_isT, wO_comp, wE_comp, wT_comp, wS_ret_comp, wO_nref, wE_nref, wT_nref, wS_ret_nref, wO_idxOf, wE_idxOf, wT_idxOf, wS_ret_idxOf, wT_var, wA_nil, wA_cons, wOs_nil, wOs_cons, wI_seq, wI_rng, wI_enm, wSs_nil, wSs_cons, wS_asg, wS_unp, wS_par, wS_setI, wS_app, wS_ex, wS_ifS, wS_whl, wS_forS, wS_retN, wS_pass, wS_brk, wS_cnt, wS_nvr, wS_rse, wS_tryE, wOp_some, wOp_none, wOq_some, wOq_none, wN_some, wN_none, wRt_some, wRt_none, wIf_true, wIf_false, wGd_true, wGd_false, varO, opO, retO, pv2, pv1, pvB, pvI, cutO, rvB, isOwnL, isAppL, popO, nrefO, isLO, rngO, enmO, setTO, setIO, appO2, Qs.seq_nx, Qs.seq_rt, Qs.seq_bk, Qs.seq_ct, Qs.seq_ex, Qs.fin_nx, Qs.fin_rt, Qs.fin_ex, entryE, deref, derefV, vw, derefs, op2, cmp_lt, cmp_le, cmp_gt, cmp_ge, cmp_isN, cmp_notN, cmp_eq_ii, cmp_ne_ii, cmp_eq_ni, cmp_ne_ni, cmp_eq_ss, cmp_ne_ss, cmp_in_t, cmp_in_l, cmp_nin_l, cmp_nin_t, okds_s, okds_t, okds_l, okds_i, okds_n, okdc_nil, okdc_cons, okdc_non, okdc_bl, okdc_int, okdc_str, cmp_eq_l0, cmp_ne_l0, cmp_eq_t0, cmp_ne_t0, sl1_t, sl1_l, isNonW, idx2, atI, ixN, blt1, truth, RV.w, slOf, toI, items, isLst, setT, setTs, vB, mulOk, rngOk_small, szOk_small, wHr_nil, wHr_cons, hrO, hAsg, hev, hevs, inE, offE, keepV_n0, keepV_nn, keepV_v, keepV_o, ne]
  · rw [fm_ne]
    generalize hr0 : lists.filter ne = rest0 at hok hx
    simp [wE_var, wO_var, wS_retV, wT_andE, wT_orE, wT_notE, wO_non, wE_non, wT_non, wS_ret_non, wO_bl, wE_bl, wT_bl, wS_ret_bl, wO_int, wE_int, wT_int, wS_ret_int, wO_str, wE_str, wT_str, wS_ret_str, wO_tup, wE_tup, wT_tup, wS_ret_tup, wO_lst, wE_lst, wT_lst, wS_ret_lst, wO_bin, wE_bin, wT_bin, wS_ret_bin, wO_cmp, wE_cmp, wT_cmp, wS_ret_cmp, wO_andE, wE_andE, wS_ret_andE, wO_orE, wE_orE, wS_ret_orE, wO_notE, wE_notE, wS_ret_notE, wO_ifE, wE_ifE, wT_ifE, wS_ret_ifE, wO_idx, wE_idx, wT_idx, wS_ret_idx, wO_sfrom, wE_sfrom, wT_sfrom, wS_ret_sfrom, wO_upto, wE_upto, wT_upto, wS_ret_upto, wO_cut, wE_cut, wT_cut, wS_ret_cut, wO_rev, wE_rev, wT_rev, wS_ret_rev, wO_call, wE_call, wT_call, wS_ret_call, wO_blt, wE_blt, wT_blt, wS_ret_blt, wO_pop, wE_pop, wT_pop, wS_ret_pop, wO_setLen, wE_setLen, wT_setLen, wS_ret_setLen, wO_isT, wE_isT, wT_isT, wS_ret_isT, wO_comp, wE_comp, wT_comp, wS_ret_comp, wO_nref, wE_nref, wT_nref, wS_ret_nref, wO_idxOf, wE_idxOf, wT_idxOf, wS_ret_idxOf, wT_var, wA_nil, wA_cons, wOs_nil, wOs_cons, wI_seq, wI_rng, wI_enm, wSs_nil, wSs_cons, wS_asg, wS_unp, wS_par, wS_setI, wS_app, wS_ex, wS_ifS, wS_whl, wS_forS, wS_retN, wS_pass, wS_brk, wS_cnt, wS_nvr, wS_rse, wS_tryE, wOp_some, wOp_none, wOq_some, wOq_none, wN_some, wN_none, wRt_some, wRt_none, wIf_true, wIf_false, wGd_true, wGd_false, varO, opO, retO, pv2, pv1, pvB, pvI, cutO, rvB, isOwnL, isAppL, popO, nrefO, isLO, rngO, enmO, setTO, setIO, appO2, Qs.seq_nx, Qs.seq_rt, Qs.seq_bk, Qs.seq_ct, Qs.seq_ex, Qs.fin_nx, Qs.fin_rt, Qs.fin_ex, entryE, deref, derefV, vw, derefs, op2, cmp_lt, cmp_le, cmp_gt, cmp_ge, cmp_isN, cmp_notN, cmp_eq_ii, cmp_ne_ii, cmp_eq_ni, cmp_ne_ni, cmp_eq_ss, cmp_ne_ss, cmp_in_t, cmp_in_l, cmp_nin_l, cmp_nin_t, okds_s, okds_t, okds_l, okds_i, okds_n, okdc_nil, okdc_cons, okdc_non, okdc_bl, okdc_int, okdc_str, cmp_eq_l0, cmp_ne_l0, cmp_eq_t0, cmp_ne_t0, sl1_t, sl1_l, isNonW, idx2, atI, ixN, blt1, truth, RV.w, slOf, toI, items, isLst, setT, setTs, vB, mulOk, rngOk_small, szOk_small, wHr_nil, wHr_cons, hrO, hAsg, hev, hevs, inE, offE, keepV_n0, keepV_nn, keepV_v, keepV_o]
    have hl0 : rest0.length < 100000 := by rw [← hr0]; exact Nat.lt_of_le_of_lt (List.length_filter_le _ _) hl
    have ht0 : tot rest0 < 100000 := by rw [← hr0, tot_filter]; exact ht
    have hne0 : ∀ r ∈ rest0, r ≠ [] := by
      rw [← hr0]; intro r hr e; subst e; simp [ne] at hr
    refine wWhl_inv (fun n st => ∃ (out : List Str) (rest : List (List Str)) (o : Option Sl), st = ⟨[some (.val w0), some (.val (.tup (lists.map tW))), some (.own .lst (sW out)), some (.own .lst (rest.map tW)), o, none], S⟩ ∧ n = tot rest ∧ (∀ r ∈ rest, r ≠ []) ∧ rest.length ≤ rest0.length ∧ out.length + tot rest ≤ tot rest0 ∧ (∀ o, Go rest o → Go rest0 (out ++ o)) ∧ (∀ o, Go rest0 o → ∃ o', o = out ++ o' ∧ Go rest o')) (tot rest0) (by unfold FU; omega) ?_ ?_
    · exact ⟨[], rest0, none, rfl, rfl, hne0, Nat.le_refl _, by simp, fun o h => h, fun o h => ⟨o, rfl, h⟩⟩
    · rintro n st ⟨out, rest, o, rfl, hn, hne, hlen, hsz, hA, hB'⟩
      simp [wE_var, wO_var, wS_retV, wT_andE, wT_orE, wT_notE, wO_non, wE_non, wT_non, wS_ret_non, wO_bl, wE_bl, wT_bl, wS_ret_bl, wO_int, wE_int, wT_int, wS_ret_int, wO_str, wE_str, wT_str, wS_ret_str, wO_tup, wE_tup, wT_tup, wS_ret_tup, wO_lst, wE_lst, wT_lst, wS_ret_lst, wO_bin, wE_bin, wT_bin, wS_ret_bin, wO_cmp, wE_cmp, wT_cmp, wS_ret_cmp, wO_andE, wE_andE, wS_ret_andE, wO_orE, wE_orE, wS_ret_orE, wO_notE, wE_notE, wS_ret_notE, wO_ifE, wE_ifE, wT_ifE, wS_ret_ifE, wO_idx, wE_idx, wT_idx, wS_ret_idx, wO_sfrom, wE_sfrom, wT_sfrom, wS_ret_sfrom, wO_upto, wE_upto, wT_upto, wS_ret_upto, wO_cut, wE_cut, wT_cut, wS_ret_cut, wO_rev, wE_rev, wT_rev, wS_ret_rev, wO_call, wE_call, wT_call, wS_ret_call, wO_blt, wE_blt, wT_blt, wS_ret_blt, wO_pop, wE_pop, wT_pop, wS_ret_pop, wO_setLen, wE_setLen, wT_setLen, wS_ret_setLen, wO_isT, wE_isT, wT_isT, wS_ret_isT, wO_comp, wE_comp, wT_comp, wS_ret_comp, wO_nref, wE_nref, wT_nref, wS_ret_nref, wO_idxOf, wE_idxOf, wT_idxOf, wS_ret_idxOf, wT_var, wA_nil, wA_cons, wOs_nil, wOs_cons, wI_seq, wI_rng, wI_enm, wSs_nil, wSs_cons, wS_asg, wS_unp, wS_par, wS_setI, wS_app, wS_ex, wS_ifS, wS_whl, wS_forS, wS_retN, wS_pass, wS_brk, wS_cnt, wS_nvr, wS_rse, wS_tryE, wOp_some, wOp_none, wOq_some, wOq_none, wN_some, wN_none, wRt_some, wRt_none, wIf_true, wIf_false, wGd_true, wGd_false, varO, opO, retO, pv2, pv1, pvB, pvI, cutO, rvB, isOwnL, isAppL, popO, nrefO, isLO, rngO, enmO, setTO, setIO, appO2, Qs.seq_nx, Qs.seq_rt, Qs.seq_bk, Qs.seq_ct, Qs.seq_ex, Qs.fin_nx, Qs.fin_rt, Qs.fin_ex, entryE, deref, derefV, vw, derefs, op2, cmp_lt, cmp_le, cmp_gt, cmp_ge, cmp_isN, cmp_notN, cmp_eq_ii, cmp_ne_ii, cmp_eq_ni, cmp_ne_ni, cmp_eq_ss, cmp_ne_ss, cmp_in_t, cmp_in_l, cmp_nin_l, cmp_nin_t, okds_s, okds_t, okds_l, okds_i, okds_n, okdc_nil, okdc_cons, okdc_non, okdc_bl, okdc_int, okdc_str, cmp_eq_l0, cmp_ne_l0, cmp_eq_t0, cmp_ne_t0, sl1_t, sl1_l, isNonW, idx2, atI, ixN, blt1, truth, RV.w, slOf, toI, items, isLst, setT, setTs, vB, mulOk, rngOk_small, szOk_small, wHr_nil, wHr_cons, hrO, hAsg, hev, hevs, inE, offE, keepV_n0, keepV_nn, keepV_v, keepV_o]
      refine wIf_split (fun hc => ?_) (fun hc => ?_)
      · have hrne : rest ≠ [] := by intro e; subst e; simp at hc
        simp [wE_var, wO_var, wS_retV, wT_andE, wT_orE, wT_notE, wO_non, wE_non, wT_non, wS_ret_non, wO_bl, wE_bl, wT_bl, wS_ret_bl, wO_int, wE_int, wT_int, wS_ret_int, wO_str, wE_str, wT_str, wS_ret_str, wO_tup, wE_tup, wT_tup, wS_ret_tup, wO_lst, wE_lst, wT_lst, wS_ret_lst, wO_bin, wE_bin, wT_bin, wS_ret_bin, wO_cmp, wE_cmp, wT_cmp, wS_ret_cmp, wO_andE, wE_andE, wS_ret_andE, wO_orE, wE_orE, wS_ret_orE, wO_notE, wE_notE, wS_ret_notE, wO_ifE, wE_ifE, wT_ifE, wS_ret_ifE, wO_idx, wE_idx, wT_idx, wS_ret_idx, wO_sfrom, wE_sfrom, wT_sfrom, wS_ret_sfrom, wO_upto, wE_upto, wT_upto, wS_ret_upto, wO_cut, wE_cut, wT_cut, wS_ret_cut, wO_rev, wE_rev, wT_rev, wS_ret_rev, wO_call, wE_call, wT_call, wS_ret_call, wO_blt, wE_blt, wT_blt, wS_ret_blt, wO_pop, wE_pop, wT_pop, wS_ret_pop, wO_setLen, wE_setLen, wT_setLen, wS_ret_setLen, wO_isT, wE_isT, wT_isT, wS_ret_isT, wO_comp, wE_comp, wT_comp, wS_ret_comp, wO_nref, wE_nref, wT_nref, wS_ret_nref, wO_idxOf, wE_idxOf, wT_idxOf, wS_ret_idxOf, wT_var, wA_nil, wA_cons, wOs_nil, wOs_cons, wI_seq, wI_rng, wI_enm, wSs_nil, wSs_cons, wS_asg, wS_unp, wS_par, wS_setI, wS_app, wS_ex, wS_ifS, wS_whl, wS_forS, wS_retN, wS_pass, wS_brk, wS_cnt, wS_nvr, wS_rse, wS_tryE, wOp_some, wOp_none, wOq_some, wOq_none, wN_some, wN_none, wRt_some, wRt_none, wIf_true, wIf_false, wGd_true, wGd_false, varO, opO, retO, pv2, pv1, pvB, pvI, cutO, rvB, isOwnL, isAppL, popO, nrefO, isLO, rngO, enmO, setTO, setIO, appO2, Qs.seq_nx, Qs.seq_rt, Qs.seq_bk, Qs.seq_ct, Qs.seq_ex, Qs.fin_nx, Qs.fin_rt, Qs.fin_ex, entryE, deref, derefV, vw, derefs, op2, cmp_lt, cmp_le, cmp_gt, cmp_ge, cmp_isN, cmp_notN, cmp_eq_ii, cmp_ne_ii, cmp_eq_ni, cmp_ne_ni, cmp_eq_ss, cmp_ne_ss, cmp_in_t, cmp_in_l, cmp_nin_l, cmp_nin_t, okds_s, okds_t, okds_l, okds_i, okds_n, okdc_nil, okdc_cons, okdc_non, okdc_bl, okdc_int, okdc_str, cmp_eq_l0, cmp_ne_l0, cmp_eq_t0, cmp_ne_t0, sl1_t, sl1_l, isNonW, idx2, atI, ixN, blt1, truth, RV.w, slOf, toI, items, isLst, setT, setTs, vB, mulOk, rngOk_small, szOk_small, wHr_nil, wHr_cons, hrO, hAsg, hev, hevs, inE, offE, keepV_n0, keepV_nn, keepV_v, keepV_o]
        refine wCmp_map (f := tW) (all := rest) (fun r => match r with
          | a :: _ => if blk rest a = true then none else some (.str a)
          | [] => none) (by simp) (fun y hy => ?_) ?_
        · cases y with
          | nil => exact (hne _ hy rfl).elim
          | cons a t =>
            simp [wE_var, wO_var, wS_retV, wT_andE, wT_orE, wT_notE, wO_non, wE_non, wT_non, wS_ret_non, wO_bl, wE_bl, wT_bl, wS_ret_bl, wO_int, wE_int, wT_int, wS_ret_int, wO_str, wE_str, wT_str, wS_ret_str, wO_tup, wE_tup, wT_tup, wS_ret_tup, wO_lst, wE_lst, wT_lst, wS_ret_lst, wO_bin, wE_bin, wT_bin, wS_ret_bin, wO_cmp, wE_cmp, wT_cmp, wS_ret_cmp, wO_andE, wE_andE, wS_ret_andE, wO_orE, wE_orE, wS_ret_orE, wO_notE, wE_notE, wS_ret_notE, wO_ifE, wE_ifE, wT_ifE, wS_ret_ifE, wO_idx, wE_idx, wT_idx, wS_ret_idx, wO_sfrom, wE_sfrom, wT_sfrom, wS_ret_sfrom, wO_upto, wE_upto, wT_upto, wS_ret_upto, wO_cut, wE_cut, wT_cut, wS_ret_cut, wO_rev, wE_rev, wT_rev, wS_ret_rev, wO_call, wE_call, wT_call, wS_ret_call, wO_blt, wE_blt, wT_blt, wS_ret_blt, wO_pop, wE_pop, wT_pop, wS_ret_pop, wO_setLen, wE_setLen, wT_setLen, wS_ret_setLen, wO_isT, wE_isT, wT_isT, wS_ret_isT, wO_comp, wE_comp, wT_comp, wS_ret_comp, wO_nref, wE_nref, wT_nref, wS_ret_nref, wO_idxOf, wE_idxOf, wT_idxOf, wS_ret_idxOf, wT_var, wA_nil, wA_cons, wOs_nil, wOs_cons, wI_seq, wI_rng, wI_enm, wSs_nil, wSs_cons, wS_asg, wS_unp, wS_par, wS_setI, wS_app, wS_ex, wS_ifS, wS_whl, wS_forS, wS_retN, wS_pass, wS_brk, wS_cnt, wS_nvr, wS_rse, wS_tryE, wOp_some, wOp_none, wOq_some, wOq_none, wN_some, wN_none, wRt_some, wRt_none, wIf_true, wIf_false, wGd_true, wGd_false, varO, opO, retO, pv2, pv1, pvB, pvI, cutO, rvB, isOwnL, isAppL, popO, nrefO, isLO, rngO, enmO, setTO, setIO, appO2, Qs.seq_nx, Qs.seq_rt, Qs.seq_bk, Qs.seq_ct, Qs.seq_ex, Qs.fin_nx, Qs.fin_rt, Qs.fin_ex, entryE, deref, derefV, vw, derefs, op2, cmp_lt, cmp_le, cmp_gt, cmp_ge, cmp_isN, cmp_notN, cmp_eq_ii, cmp_ne_ii, cmp_eq_ni, cmp_ne_ni, cmp_eq_ss, cmp_ne_ss, cmp_in_t, cmp_in_l, cmp_nin_l, cmp_nin_t, okds_s, okds_t, okds_l, okds_i, okds_n, okdc_nil, okdc_cons, okdc_non, okdc_bl, okdc_int, okdc_str, cmp_eq_l0, cmp_ne_l0, cmp_eq_t0, cmp_ne_t0, sl1_t, sl1_l, isNonW, idx2, atI, ixN, blt1, truth, RV.w, slOf, toI, items, isLst, setT, setTs, vB, mulOk, rngOk_small, szOk_small, wHr_nil, wHr_cons, hrO, hAsg, hev, hevs, inE, offE, keepV_n0, keepV_nn, keepV_v, keepV_o]
            refine blocking_w hB (fun hf => ?_) fun r hr har => ?_
            · simp [wE_var, wO_var, wS_retV, wT_andE, wT_orE, wT_notE, wO_non, wE_non, wT_non, wS_ret_non, wO_bl, wE_bl, wT_bl, wS_ret_bl, wO_int, wE_int, wT_int, wS_ret_int, wO_str, wE_str, wT_str, wS_ret_str, wO_tup, wE_tup, wT_tup, wS_ret_tup, wO_lst, wE_lst, wT_lst, wS_ret_lst, wO_bin, wE_bin, wT_bin, wS_ret_bin, wO_cmp, wE_cmp, wT_cmp, wS_ret_cmp, wO_andE, wE_andE, wS_ret_andE, wO_orE, wE_orE, wS_ret_orE, wO_notE, wE_notE, wS_ret_notE, wO_ifE, wE_ifE, wT_ifE, wS_ret_ifE, wO_idx, wE_idx, wT_idx, wS_ret_idx, wO_sfrom, wE_sfrom, wT_sfrom, wS_ret_sfrom, wO_upto, wE_upto, wT_upto, wS_ret_upto, wO_cut, wE_cut, wT_cut, wS_ret_cut, wO_rev, wE_rev, wT_rev, wS_ret_rev, wO_call, wE_call, wT_call, wS_ret_call, wO_blt, wE_blt, wT_blt, wS_ret_blt, wO_pop, wE_pop, wT_pop, wS_ret_pop, wO_setLen, wE_setLen, wT_setLen, wS_ret_setLen, wO_isT, wE_isT, wT_isT, wS_ret_isT, wO_comp, wE_comp, wT_comp, wS_ret_comp, wO_nref, wE_nref, wT_nref, wS_ret_nref, wO_idxOf, wE_idxOf, wT_idxOf, wS_ret_idxOf, wT_var, wA_nil, wA_cons, wOs_nil, wOs_cons, wI_seq, wI_rng, wI_enm, wSs_nil, wSs_cons, wS_asg, wS_unp, wS_par, wS_setI, wS_app, wS_ex, wS_ifS, wS_whl, wS_forS, wS_retN, wS_pass, wS_brk, wS_cnt, wS_nvr, wS_rse, wS_tryE, wOp_some, wOp_none, wOq_some, wOq_none, wN_some, wN_none, wRt_some, wRt_none, wIf_true, wIf_false, wGd_true, wGd_false, varO, opO, retO, pv2, pv1, pvB, pvI, cutO, rvB, isOwnL, isAppL, popO, nrefO, isLO, rngO, enmO, setTO, setIO, appO2, Qs.seq_nx, Qs.seq_rt, Qs.seq_bk, Qs.seq_ct, Qs.seq_ex, Qs.fin_nx, Qs.fin_rt, Qs.fin_ex, entryE, deref, derefV, vw, derefs, op2, cmp_lt, cmp_le, cmp_gt, cmp_ge, cmp_isN, cmp_notN, cmp_eq_ii, cmp_ne_ii, cmp_eq_ni, cmp_ne_ni, cmp_eq_ss, cmp_ne_ss, cmp_in_t, cmp_in_l, cmp_nin_l, cmp_nin_t, okds_s, okds_t, okds_l, okds_i, okds_n, okdc_nil, okdc_cons, okdc_non, okdc_bl, okdc_int, okdc_str, cmp_eq_l0, cmp_ne_l0, cmp_eq_t0, cmp_ne_t0, sl1_t, sl1_l, isNonW, idx2, atI, ixN, blt1, truth, RV.w, slOf, toI, items, isLst, setT, setTs, vB, mulOk, rngOk_small, szOk_small, wHr_nil, wHr_cons, hrO, hAsg, hev, hevs, inE, offE, keepV_n0, keepV_nn, keepV_v, keepV_o, hf]
            · have : blk rest a = true := blk_iff.mpr ⟨r, hr, har⟩
              simp [wE_var, wO_var, wS_retV, wT_andE, wT_orE, wT_notE, wO_non, wE_non, wT_non, wS_ret_non, wO_bl, wE_bl, wT_bl, wS_ret_bl, wO_int, wE_int, wT_int, wS_ret_int, wO_str, wE_str, wT_str, wS_ret_str, wO_tup, wE_tup, wT_tup, wS_ret_tup, wO_lst, wE_lst, wT_lst, wS_ret_lst, wO_bin, wE_bin, wT_bin, wS_ret_bin, wO_cmp, wE_cmp, wT_cmp, wS_ret_cmp, wO_andE, wE_andE, wS_ret_andE, wO_orE, wE_orE, wS_ret_orE, wO_notE, wE_notE, wS_ret_notE, wO_ifE, wE_ifE, wT_ifE, wS_ret_ifE, wO_idx, wE_idx, wT_idx, wS_ret_idx, wO_sfrom, wE_sfrom, wT_sfrom, wS_ret_sfrom, wO_upto, wE_upto, wT_upto, wS_ret_upto, wO_cut, wE_cut, wT_cut, wS_ret_cut, wO_rev, wE_rev, wT_rev, wS_ret_rev, wO_call, wE_call, wT_call, wS_ret_call, wO_blt, wE_blt, wT_blt, wS_ret_blt, wO_pop, wE_pop, wT_pop, wS_ret_pop, wO_setLen, wE_setLen, wT_setLen, wS_ret_setLen, wO_isT, wE_isT, wT_isT, wS_ret_isT, wO_comp, wE_comp, wT_comp, wS_ret_comp, wO_nref, wE_nref, wT_nref, wS_ret_nref, wO_idxOf, wE_idxOf, wT_idxOf, wS_ret_idxOf, wT_var, wA_nil, wA_cons, wOs_nil, wOs_cons, wI_seq, wI_rng, wI_enm, wSs_nil, wSs_cons, wS_asg, wS_unp, wS_par, wS_setI, wS_app, wS_ex, wS_ifS, wS_whl, wS_forS, wS_retN, wS_pass, wS_brk, wS_cnt, wS_nvr, wS_rse, wS_tryE, wOp_some, wOp_none, wOq_some, wOq_none, wN_some, wN_none, wRt_some, wRt_none, wIf_true, wIf_false, wGd_true, wGd_false, varO, opO, retO, pv2, pv1, pvB, pvI, cutO, rvB, isOwnL, isAppL, popO, nrefO, isLO, rngO, enmO, setTO, setIO, appO2, Qs.seq_nx, Qs.seq_rt, Qs.seq_bk, Qs.seq_ct, Qs.seq_ex, Qs.fin_nx, Qs.fin_rt, Qs.fin_ex, entryE, deref, derefV, vw, derefs, op2, cmp_lt, cmp_le, cmp_gt, cmp_ge, cmp_isN, cmp_notN, cmp_eq_ii, cmp_ne_ii, cmp_eq_ni, cmp_ne_ni, cmp_eq_ss, cmp_ne_ss, cmp_in_t, cmp_in_l, cmp_nin_l, cmp_nin_t, okds_s, okds_t, okds_l, okds_i, okds_n, okdc_nil, okdc_cons, okdc_non, okdc_bl, okdc_int, okdc_str, cmp_eq_l0, cmp_ne_l0, cmp_eq_t0, cmp_ne_t0, sl1_t, sl1_l, isNonW, idx2, atI, ixN, blt1, truth, RV.w, slOf, toI, items, isLst, setT, setTs, vB, mulOk, rngOk_small, szOk_small, wHr_nil, wHr_cons, hrO, hAsg, hev, hevs, inE, offE, keepV_n0, keepV_nn, keepV_v, keepV_o, this]
        · rw [fm_free]
          simp [wE_var, wO_var, wS_retV, wT_andE, wT_orE, wT_notE, wO_non, wE_non, wT_non, wS_ret_non, wO_bl, wE_bl, wT_bl, wS_ret_bl, wO_int, wE_int, wT_int, wS_ret_int, wO_str, wE_str, wT_str, wS_ret_str, wO_tup, wE_tup, wT_tup, wS_ret_tup, wO_lst, wE_lst, wT_lst, wS_ret_lst, wO_bin, wE_bin, wT_bin, wS_ret_bin, wO_cmp, wE_cmp, wT_cmp, wS_ret_cmp, wO_andE, wE_andE, wS_ret_andE, wO_orE, wE_orE, wS_ret_orE, wO_notE, wE_notE, wS_ret_notE, wO_ifE, wE_ifE, wT_ifE, wS_ret_ifE, wO_idx, wE_idx, wT_idx, wS_ret_idx, wO_sfrom, wE_sfrom, wT_sfrom, wS_ret_sfrom, wO_upto, wE_upto, wT_upto, wS_ret_upto, wO_cut, wE_cut, wT_cut, wS_ret_cut, wO_rev, wE_rev, wT_rev, wS_ret_rev, wO_call, wE_call, wT_call, wS_ret_call, wO_blt, wE_blt, wT_blt, wS_ret_blt, wO_pop, wE_pop, wT_pop, wS_ret_pop, wO_setLen, wE_setLen, wT_setLen, wS_ret_setLen, wO_isT, wE_isT, wT_isT, wS_ret_isT, wO_comp, wE_comp, wT_comp, wS_ret_comp, wO_nref, wE_nref, wT_nref, wS_ret_nref, wO_idxOf, wE_idxOf, wT_idxOf, wS_ret_idxOf, wT_var, wA_nil, wA_cons, wOs_nil, wOs_cons, wI_seq, wI_rng, wI_enm, wSs_nil, wSs_cons, wS_asg, wS_unp, wS_par, wS_setI, wS_app, wS_ex, wS_ifS, wS_whl, wS_forS, wS_retN, wS_pass, wS_brk, wS_cnt, wS_nvr, wS_rse, wS_tryE, wOp_some, wOp_none, wOq_some, wOq_none, wN_some, wN_none, wRt_some, wRt_none, wIf_true, wIf_false, wGd_true, wGd_false, varO, opO, retO, pv2, pv1, pvB, pvI, cutO, rvB, isOwnL, isAppL, popO, nrefO, isLO, rngO, enmO, setTO, setIO, appO2, Qs.seq_nx, Qs.seq_rt, Qs.seq_bk, Qs.seq_ct, Qs.seq_ex, Qs.fin_nx, Qs.fin_rt, Qs.fin_ex, entryE, deref, derefV, vw, derefs, op2, cmp_lt, cmp_le, cmp_gt, cmp_ge, cmp_isN, cmp_notN, cmp_eq_ii, cmp_ne_ii, cmp_eq_ni, cmp_ne_ni, cmp_eq_ss, cmp_ne_ss, cmp_in_t, cmp_in_l, cmp_nin_l, cmp_nin_t, okds_s, okds_t, okds_l, okds_i, okds_n, okdc_nil, okdc_cons, okdc_non, okdc_bl, okdc_int, okdc_str, cmp_eq_l0, cmp_ne_l0, cmp_eq_t0, cmp_ne_t0, sl1_t, sl1_l, isNonW, idx2, atI, ixN, blt1, truth, RV.w, slOf, toI, items, isLst, setT, setTs, vB, mulOk, rngOk_small, szOk_small, wHr_nil, wHr_cons, hrO, hAsg, hev, hevs, inE, offE, keepV_n0, keepV_nn, keepV_v, keepV_o]
          refine wIf_split (fun hf => ?_) (fun hf => ?_)
          · have hf : free rest rest = [] := by simpa using hf
            simp [wE_var, wO_var, wS_retV, wT_andE, wT_orE, wT_notE, wO_non, wE_non, wT_non, wS_ret_non, wO_bl, wE_bl, wT_bl, wS_ret_bl, wO_int, wE_int, wT_int, wS_ret_int, wO_str, wE_str, wT_str, wS_ret_str, wO_tup, wE_tup, wT_tup, wS_ret_tup, wO_lst, wE_lst, wT_lst, wS_ret_lst, wO_bin, wE_bin, wT_bin, wS_ret_bin, wO_cmp, wE_cmp, wT_cmp, wS_ret_cmp, wO_andE, wE_andE, wS_ret_andE, wO_orE, wE_orE, wS_ret_orE, wO_notE, wE_notE, wS_ret_notE, wO_ifE, wE_ifE, wT_ifE, wS_ret_ifE, wO_idx, wE_idx, wT_idx, wS_ret_idx, wO_sfrom, wE_sfrom, wT_sfrom, wS_ret_sfrom, wO_upto, wE_upto, wT_upto, wS_ret_upto, wO_cut, wE_cut, wT_cut, wS_ret_cut, wO_rev, wE_rev, wT_rev, wS_ret_rev, wO_call, wE_call, wT_call, wS_ret_call, wO_blt, wE_blt, wT_blt, wS_ret_blt, wO_pop, wE_pop, wT_pop, wS_ret_pop, wO_setLen, wE_setLen, wT_setLen, wS_ret_setLen, wO_isT, wE_isT, wT_isT, wS_ret_isT, wO_comp, wE_comp, wT_comp, wS_ret_comp, wO_nref, wE_nref, wT_nref, wS_ret_nref, wO_idxOf, wE_idxOf, wT_idxOf, wS_ret_idxOf, wT_var, wA_nil, wA_cons, wOs_nil, wOs_cons, wI_seq, wI_rng, wI_enm, wSs_nil, wSs_cons, wS_asg, wS_unp, wS_par, wS_setI, wS_app, wS_ex, wS_ifS, wS_whl, wS_forS, wS_retN, wS_pass, wS_brk, wS_cnt, wS_nvr, wS_rse, wS_tryE, wOp_some, wOp_none, wOq_some, wOq_none, wN_some, wN_none, wRt_some, wRt_none, wIf_true, wIf_false, wGd_true, wGd_false, varO, opO, retO, pv2, pv1, pvB, pvI, cutO, rvB, isOwnL, isAppL, popO, nrefO, isLO, rngO, enmO, setTO, setIO, appO2, Qs.seq_nx, Qs.seq_rt, Qs.seq_bk, Qs.seq_ct, Qs.seq_ex, Qs.fin_nx, Qs.fin_rt, Qs.fin_ex, entryE, deref, derefV, vw, derefs, op2, cmp_lt, cmp_le, cmp_gt, cmp_ge, cmp_isN, cmp_notN, cmp_eq_ii, cmp_ne_ii, cmp_eq_ni, cmp_ne_ni, cmp_eq_ss, cmp_ne_ss, cmp_in_t, cmp_in_l, cmp_nin_l, cmp_nin_t, okds_s, okds_t, okds_l, okds_i, okds_n, okdc_nil, okdc_cons, okdc_non, okdc_bl, okdc_int, okdc_str, cmp_eq_l0, cmp_ne_l0, cmp_eq_t0, cmp_ne_t0, sl1_t, sl1_l, isNonW, idx2, atI, ixN, blt1, truth, RV.w, slOf, toI, items, isLst, setT, setTs, vB, mulOk, rngOk_small, szOk_small, wHr_nil, wHr_cons, hrO, hAsg, hev, hevs, inE, offE, keepV_n0, keepV_nn, keepV_v, keepV_o]
            refine ring_w hB hG (by omega) hrne hne (fun r hr a t e => ?_) fun l => ?_
            · cases hb : blk rest a with
              | true => rfl
              | false =>
                have : a ∈ free rest rest := free_mem.mpr ⟨t, e ▸ hr, hb⟩
                rw [hf] at this; cases this
            · simp [wE_var, wO_var, wS_retV, wT_andE, wT_orE, wT_notE, wO_non, wE_non, wT_non, wS_ret_non, wO_bl, wE_bl, wT_bl, wS_ret_bl, wO_int, wE_int, wT_int, wS_ret_int, wO_str, wE_str, wT_str, wS_ret_str, wO_tup, wE_tup, wT_tup, wS_ret_tup, wO_lst, wE_lst, wT_lst, wS_ret_lst, wO_bin, wE_bin, wT_bin, wS_ret_bin, wO_cmp, wE_cmp, wT_cmp, wS_ret_cmp, wO_andE, wE_andE, wS_ret_andE, wO_orE, wE_orE, wS_ret_orE, wO_notE, wE_notE, wS_ret_notE, wO_ifE, wE_ifE, wT_ifE, wS_ret_ifE, wO_idx, wE_idx, wT_idx, wS_ret_idx, wO_sfrom, wE_sfrom, wT_sfrom, wS_ret_sfrom, wO_upto, wE_upto, wT_upto, wS_ret_upto, wO_cut, wE_cut, wT_cut, wS_ret_cut, wO_rev, wE_rev, wT_rev, wS_ret_rev, wO_call, wE_call, wT_call, wS_ret_call, wO_blt, wE_blt, wT_blt, wS_ret_blt, wO_pop, wE_pop, wT_pop, wS_ret_pop, wO_setLen, wE_setLen, wT_setLen, wS_ret_setLen, wO_isT, wE_isT, wT_isT, wS_ret_isT, wO_comp, wE_comp, wT_comp, wS_ret_comp, wO_nref, wE_nref, wT_nref, wS_ret_nref, wO_idxOf, wE_idxOf, wT_idxOf, wS_ret_idxOf, wT_var, wA_nil, wA_cons, wOs_nil, wOs_cons, wI_seq, wI_rng, wI_enm, wSs_nil, wSs_cons, wS_asg, wS_unp, wS_par, wS_setI, wS_app, wS_ex, wS_ifS, wS_whl, wS_forS, wS_retN, wS_pass, wS_brk, wS_cnt, wS_nvr, wS_rse, wS_tryE, wOp_some, wOp_none, wOq_some, wOq_none, wN_some, wN_none, wRt_some, wRt_none, wIf_true, wIf_false, wGd_true, wGd_false, varO, opO, retO, pv2, pv1, pvB, pvI, cutO, rvB, isOwnL, isAppL, popO, nrefO, isLO, rngO, enmO, setTO, setIO, appO2, Qs.seq_nx, Qs.seq_rt, Qs.seq_bk, Qs.seq_ct, Qs.seq_ex, Qs.fin_nx, Qs.fin_rt, Qs.fin_ex, entryE, deref, derefV, vw, derefs, op2, cmp_lt, cmp_le, cmp_gt, cmp_ge, cmp_isN, cmp_notN, cmp_eq_ii, cmp_ne_ii, cmp_eq_ni, cmp_ne_ni, cmp_eq_ss, cmp_ne_ss, cmp_in_t, cmp_in_l, cmp_nin_l, cmp_nin_t, okds_s, okds_t, okds_l, okds_i, okds_n, okdc_nil, okdc_cons, okdc_non, okdc_bl, okdc_int, okdc_str, cmp_eq_l0, cmp_ne_l0, cmp_eq_t0, cmp_ne_t0, sl1_t, sl1_l, isNonW, idx2, atI, ixN, blt1, truth, RV.w, slOf, toI, items, isLst, setT, setTs, vB, mulOk, rngOk_small, szOk_small, wHr_nil, wHr_cons, hrO, hAsg, hev, hevs, inE, offE, keepV_n0, keepV_nn, keepV_v, keepV_o]
              refine hx ?_ l
              rintro ⟨o1, g1⟩
              obtain ⟨o', _, g'⟩ := hB' o1 g1
              cases g' with
              | nil => exact hrne rfl
              | cons h _ => rw [hf] at h; cases h
          · cases hfe : free rest rest with
            | nil => rw [hfe] at hf; cases hf
            | cons a xs =>
            have hlt := adv_lt hfe
            have hz : szOk (out.length + 1) = true := szOk_small (by omega)
            simp [wE_var, wO_var, wS_retV, wT_andE, wT_orE, wT_notE, wO_non, wE_non, wT_non, wS_ret_non, wO_bl, wE_bl, wT_bl, wS_ret_bl, wO_int, wE_int, wT_int, wS_ret_int, wO_str, wE_str, wT_str, wS_ret_str, wO_tup, wE_tup, wT_tup, wS_ret_tup, wO_lst, wE_lst, wT_lst, wS_ret_lst, wO_bin, wE_bin, wT_bin, wS_ret_bin, wO_cmp, wE_cmp, wT_cmp, wS_ret_cmp, wO_andE, wE_andE, wS_ret_andE, wO_orE, wE_orE, wS_ret_orE, wO_notE, wE_notE, wS_ret_notE, wO_ifE, wE_ifE, wT_ifE, wS_ret_ifE, wO_idx, wE_idx, wT_idx, wS_ret_idx, wO_sfrom, wE_sfrom, wT_sfrom, wS_ret_sfrom, wO_upto, wE_upto, wT_upto, wS_ret_upto, wO_cut, wE_cut, wT_cut, wS_ret_cut, wO_rev, wE_rev, wT_rev, wS_ret_rev, wO_call, wE_call, wT_call, wS_ret_call, wO_blt, wE_blt, wT_blt, wS_ret_blt, wO_pop, wE_pop, wT_pop, wS_ret_pop, wO_setLen, wE_setLen, wT_setLen, wS_ret_setLen, wO_isT, wE_isT, wT_isT, wS_ret_isT, wO_comp, wE_comp, wT_comp, wS_ret_comp, wO_nref, wE_nref, wT_nref, wS_ret_nref, wO_idxOf, wE_idxOf, wT_idxOf, wS_ret_idxOf, wT_var, wA_nil, wA_cons, wOs_nil, wOs_cons, wI_seq, wI_rng, wI_enm, wSs_nil, wSs_cons, wS_asg, wS_unp, wS_par, wS_setI, wS_app, wS_ex, wS_ifS, wS_whl, wS_forS, wS_retN, wS_pass, wS_brk, wS_cnt, wS_nvr, wS_rse, wS_tryE, wOp_some, wOp_none, wOq_some, wOq_none, wN_some, wN_none, wRt_some, wRt_none, wIf_true, wIf_false, wGd_true, wGd_false, varO, opO, retO, pv2, pv1, pvB, pvI, cutO, rvB, isOwnL, isAppL, popO, nrefO, isLO, rngO, enmO, setTO, setIO, appO2, Qs.seq_nx, Qs.seq_rt, Qs.seq_bk, Qs.seq_ct, Qs.seq_ex, Qs.fin_nx, Qs.fin_rt, Qs.fin_ex, entryE, deref, derefV, vw, derefs, op2, cmp_lt, cmp_le, cmp_gt, cmp_ge, cmp_isN, cmp_notN, cmp_eq_ii, cmp_ne_ii, cmp_eq_ni, cmp_ne_ni, cmp_eq_ss, cmp_ne_ss, cmp_in_t, cmp_in_l, cmp_nin_l, cmp_nin_t, okds_s, okds_t, okds_l, okds_i, okds_n, okdc_nil, okdc_cons, okdc_non, okdc_bl, okdc_int, okdc_str, cmp_eq_l0, cmp_ne_l0, cmp_eq_t0, cmp_ne_t0, sl1_t, sl1_l, isNonW, idx2, atI, ixN, blt1, truth, RV.w, slOf, toI, items, isLst, setT, setTs, vB, mulOk, rngOk_small, szOk_small, wHr_nil, wHr_cons, hrO, hAsg, hev, hevs, inE, offE, keepV_n0, keepV_nn, keepV_v, keepV_o, hz]
            refine wCmp_map (f := tW) (all := rest) (fun r => some (tW (drp a r))) (by simp) (fun y hy => ?_) ?_
            · cases y with
              | nil => exact (hne _ hy rfl).elim
              | cons b t =>
                simp [wE_var, wO_var, wS_retV, wT_andE, wT_orE, wT_notE, wO_non, wE_non, wT_non, wS_ret_non, wO_bl, wE_bl, wT_bl, wS_ret_bl, wO_int, wE_int, wT_int, wS_ret_int, wO_str, wE_str, wT_str, wS_ret_str, wO_tup, wE_tup, wT_tup, wS_ret_tup, wO_lst, wE_lst, wT_lst, wS_ret_lst, wO_bin, wE_bin, wT_bin, wS_ret_bin, wO_cmp, wE_cmp, wT_cmp, wS_ret_cmp, wO_andE, wE_andE, wS_ret_andE, wO_orE, wE_orE, wS_ret_orE, wO_notE, wE_notE, wS_ret_notE, wO_ifE, wE_ifE, wT_ifE, wS_ret_ifE, wO_idx, wE_idx, wT_idx, wS_ret_idx, wO_sfrom, wE_sfrom, wT_sfrom, wS_ret_sfrom, wO_upto, wE_upto, wT_upto, wS_ret_upto, wO_cut, wE_cut, wT_cut, wS_ret_cut, wO_rev, wE_rev, wT_rev, wS_ret_rev, wO_call, wE_call, wT_call, wS_ret_call, wO_blt, wE_blt, wT_blt, wS_ret_blt, wO_pop, wE_pop, wT_pop, wS_ret_pop, wO_setLen, wE_setLen, wT_setLen, wS_ret_setLen, wO_isT, wE_isT, wT_isT, wS_ret_isT, wO_comp, wE_comp, wT_comp, wS_ret_comp, wO_nref, wE_nref, wT_nref, wS_ret_nref, wO_idxOf, wE_idxOf, wT_idxOf, wS_ret_idxOf, wT_var, wA_nil, wA_cons, wOs_nil, wOs_cons, wI_seq, wI_rng, wI_enm, wSs_nil, wSs_cons, wS_asg, wS_unp, wS_par, wS_setI, wS_app, wS_ex, wS_ifS, wS_whl, wS_forS, wS_retN, wS_pass, wS_brk, wS_cnt, wS_nvr, wS_rse, wS_tryE, wOp_some, wOp_none, wOq_some, wOq_none, wN_some, wN_none, wRt_some, wRt_none, wIf_true, wIf_false, wGd_true, wGd_false, varO, opO, retO, pv2, pv1, pvB, pvI, cutO, rvB, isOwnL, isAppL, popO, nrefO, isLO, rngO, enmO, setTO, setIO, appO2, Qs.seq_nx, Qs.seq_rt, Qs.seq_bk, Qs.seq_ct, Qs.seq_ex, Qs.fin_nx, Qs.fin_rt, Qs.fin_ex, entryE, deref, derefV, vw, derefs, op2, cmp_lt, cmp_le, cmp_gt, cmp_ge, cmp_isN, cmp_notN, cmp_eq_ii, cmp_ne_ii, cmp_eq_ni, cmp_ne_ni, cmp_eq_ss, cmp_ne_ss, cmp_in_t, cmp_in_l, cmp_nin_l, cmp_nin_t, okds_s, okds_t, okds_l, okds_i, okds_n, okdc_nil, okdc_cons, okdc_non, okdc_bl, okdc_int, okdc_str, cmp_eq_l0, cmp_ne_l0, cmp_eq_t0, cmp_ne_t0, sl1_t, sl1_l, isNonW, idx2, atI, ixN, blt1, truth, RV.w, slOf, toI, items, isLst, setT, setTs, vB, mulOk, rngOk_small, szOk_small, wHr_nil, wHr_cons, hrO, hAsg, hev, hevs, inE, offE, keepV_n0, keepV_nn, keepV_v, keepV_o, drp_cons]
                refine wIf_split (fun hc => ?_) (fun hc => ?_)
                · have hc : b = a := by simpa using hc
                  simp [wE_var, wO_var, wS_retV, wT_andE, wT_orE, wT_notE, wO_non, wE_non, wT_non, wS_ret_non, wO_bl, wE_bl, wT_bl, wS_ret_bl, wO_int, wE_int, wT_int, wS_ret_int, wO_str, wE_str, wT_str, wS_ret_str, wO_tup, wE_tup, wT_tup, wS_ret_tup, wO_lst, wE_lst, wT_lst, wS_ret_lst, wO_bin, wE_bin, wT_bin, wS_ret_bin, wO_cmp, wE_cmp, wT_cmp, wS_ret_cmp, wO_andE, wE_andE, wS_ret_andE, wO_orE, wE_orE, wS_ret_orE, wO_notE, wE_notE, wS_ret_notE, wO_ifE, wE_ifE, wT_ifE, wS_ret_ifE, wO_idx, wE_idx, wT_idx, wS_ret_idx, wO_sfrom, wE_sfrom, wT_sfrom, wS_ret_sfrom, wO_upto, wE_upto, wT_upto, wS_ret_upto, wO_cut, wE_cut, wT_cut, wS_ret_cut, wO_rev, wE_rev, wT_rev, wS_ret_rev, wO_call, wE_call, wT_call, wS_ret_call, wO_blt, wE_blt, wT_blt, wS_ret_blt, wO_pop, wE_pop, wT_pop, wS_ret_pop, wO_setLen, wE_setLen, wT_setLen, wS_ret_setLen, wO_isT, wE_isT, wT_isT, wS_ret_isT, wO_comp, wE_comp, wT_comp, wS_ret_comp, wO_nref, wE_nref, wT_nref, wS_ret_nref, wO_idxOf, wE_idxOf, wT_idxOf, wS_ret_idxOf, wT_var, wA_nil, wA_cons, wOs_nil, wOs_cons, wI_seq, wI_rng, wI_enm, wSs_nil, wSs_cons, wS_asg, wS_unp, wS_par, wS_setI, wS_app, wS_ex, wS_ifS, wS_whl, wS_forS, wS_retN, wS_pass, wS_brk, wS_cnt, wS_nvr, wS_rse, wS_tryE, wOp_some, wOp_none, wOq_some, wOq_none, wN_some, wN_none, wRt_some, wRt_none, wIf_true, wIf_false, wGd_true, wGd_false, varO, opO, retO, pv2, pv1, pvB, pvI, cutO, rvB, isOwnL, isAppL, popO, nrefO, isLO, rngO, enmO, setTO, setIO, appO2, Qs.seq_nx, Qs.seq_rt, Qs.seq_bk, Qs.seq_ct, Qs.seq_ex, Qs.fin_nx, Qs.fin_rt, Qs.fin_ex, entryE, deref, derefV, vw, derefs, op2, cmp_lt, cmp_le, cmp_gt, cmp_ge, cmp_isN, cmp_notN, cmp_eq_ii, cmp_ne_ii, cmp_eq_ni, cmp_ne_ni, cmp_eq_ss, cmp_ne_ss, cmp_in_t, cmp_in_l, cmp_nin_l, cmp_nin_t, okds_s, okds_t, okds_l, okds_i, okds_n, okdc_nil, okdc_cons, okdc_non, okdc_bl, okdc_int, okdc_str, cmp_eq_l0, cmp_ne_l0, cmp_eq_t0, cmp_ne_t0, sl1_t, sl1_l, isNonW, idx2, atI, ixN, blt1, truth, RV.w, slOf, toI, items, isLst, setT, setTs, vB, mulOk, rngOk_small, szOk_small, wHr_nil, wHr_cons, hrO, hAsg, hev, hevs, inE, offE, keepV_n0, keepV_nn, keepV_v, keepV_o, hc]
                  simp [drp]
                · have hc : b ≠ a := by simpa using hc
                  simp [wE_var, wO_var, wS_retV, wT_andE, wT_orE, wT_notE, wO_non, wE_non, wT_non, wS_ret_non, wO_bl, wE_bl, wT_bl, wS_ret_bl, wO_int, wE_int, wT_int, wS_ret_int, wO_str, wE_str, wT_str, wS_ret_str, wO_tup, wE_tup, wT_tup, wS_ret_tup, wO_lst, wE_lst, wT_lst, wS_ret_lst, wO_bin, wE_bin, wT_bin, wS_ret_bin, wO_cmp, wE_cmp, wT_cmp, wS_ret_cmp, wO_andE, wE_andE, wS_ret_andE, wO_orE, wE_orE, wS_ret_orE, wO_notE, wE_notE, wS_ret_notE, wO_ifE, wE_ifE, wT_ifE, wS_ret_ifE, wO_idx, wE_idx, wT_idx, wS_ret_idx, wO_sfrom, wE_sfrom, wT_sfrom, wS_ret_sfrom, wO_upto, wE_upto, wT_upto, wS_ret_upto, wO_cut, wE_cut, wT_cut, wS_ret_cut, wO_rev, wE_rev, wT_rev, wS_ret_rev, wO_call, wE_call, wT_call, wS_ret_call, wO_blt, wE_blt, wT_blt, wS_ret_blt, wO_pop, wE_pop, wT_pop, wS_ret_pop, wO_setLen, wE_setLen, wT_setLen, wS_ret_setLen, wO_isT, wE_isT, wT_isT, wS_ret_isT, wO_comp, wE_comp, wT_comp, wS_ret_comp, wO_nref, wE_nref, wT_nref, wS_ret_nref, wO_idxOf, wE_idxOf, wT_idxOf, wS_ret_idxOf, wT_var, wA_nil, wA_cons, wOs_nil, wOs_cons, wI_seq, wI_rng, wI_enm, wSs_nil, wSs_cons, wS_asg, wS_unp, wS_par, wS_setI, wS_app, wS_ex, wS_ifS, wS_whl, wS_forS, wS_retN, wS_pass, wS_brk, wS_cnt, wS_nvr, wS_rse, wS_tryE, wOp_some, wOp_none, wOq_some, wOq_none, wN_some, wN_none, wRt_some, wRt_none, wIf_true, wIf_false, wGd_true, wGd_false, varO, opO, retO, pv2, pv1, pvB, pvI, cutO, rvB, isOwnL, isAppL, popO, nrefO, isLO, rngO, enmO, setTO, setIO, appO2, Qs.seq_nx, Qs.seq_rt, Qs.seq_bk, Qs.seq_ct, Qs.seq_ex, Qs.fin_nx, Qs.fin_rt, Qs.fin_ex, entryE, deref, derefV, vw, derefs, op2, cmp_lt, cmp_le, cmp_gt, cmp_ge, cmp_isN, cmp_notN, cmp_eq_ii, cmp_ne_ii, cmp_eq_ni, cmp_ne_ni, cmp_eq_ss, cmp_ne_ss, cmp_in_t, cmp_in_l, cmp_nin_l, cmp_nin_t, okds_s, okds_t, okds_l, okds_i, okds_n, okdc_nil, okdc_cons, okdc_non, okdc_bl, okdc_int, okdc_str, cmp_eq_l0, cmp_ne_l0, cmp_eq_t0, cmp_ne_t0, sl1_t, sl1_l, isNonW, idx2, atI, ixN, blt1, truth, RV.w, slOf, toI, items, isLst, setT, setTs, vB, mulOk, rngOk_small, szOk_small, wHr_nil, wHr_cons, hrO, hAsg, hev, hevs, inE, offE, keepV_n0, keepV_nn, keepV_v, keepV_o, hc]
                  simp [drp, hc]
            · rw [show List.filterMap (fun r => some (tW (drp a r))) rest = (rest.map (drp a)).map tW by simp [List.map_map, List.filterMap_eq_map]]
              simp [wE_var, wO_var, wS_retV, wT_andE, wT_orE, wT_notE, wO_non, wE_non, wT_non, wS_ret_non, wO_bl, wE_bl, wT_bl, wS_ret_bl, wO_int, wE_int, wT_int, wS_ret_int, wO_str, wE_str, wT_str, wS_ret_str, wO_tup, wE_tup, wT_tup, wS_ret_tup, wO_lst, wE_lst, wT_lst, wS_ret_lst, wO_bin, wE_bin, wT_bin, wS_ret_bin, wO_cmp, wE_cmp, wT_cmp, wS_ret_cmp, wO_andE, wE_andE, wS_ret_andE, wO_orE, wE_orE, wS_ret_orE, wO_notE, wE_notE, wS_ret_notE, wO_ifE, wE_ifE, wT_ifE, wS_ret_ifE, wO_idx, wE_idx, wT_idx, wS_ret_idx, wO_sfrom, wE_sfrom, wT_sfrom, wS_ret_sfrom, wO_upto, wE_upto, wT_upto, wS_ret_upto, wO_cut, wE_cut, wT_cut, wS_ret_cut, wO_rev, wE_rev, wT_rev, wS_ret_rev, wO_call, wE_call, wT_call, wS_ret_call, wO_blt, wE_blt, wT_blt, wS_ret_blt, wO_pop, wE_pop, wT_pop, wS_ret_pop, wO_setLen, wE_setLen, wT_setLen, wS_ret_setLen, wO_isT, wE_isT, wT_isT, wS_ret_isT, wO_comp, wE_comp, wT_comp, wS_ret_comp, wO_nref, wE_nref, wT_nref, wS_ret_nref, wO_idxOf, wE_idxOf, wT_idxOf, wS_ret_idxOf, wT_var, wA_nil, wA_cons, wOs_nil, wOs_cons, wI_seq, wI_rng, wI_enm, wSs_nil, wSs_cons, wS_asg, wS_unp, wS_par, wS_setI, wS_app, wS_ex, wS_ifS, wS_whl, wS_forS, wS_retN, wS_pass, wS_brk, wS_cnt, wS_nvr, wS_rse, wS_tryE, wOp_some, wOp_none, wOq_some, wOq_none, wN_some, wN_none, wRt_some, wRt_none, wIf_true, wIf_false, wGd_true, wGd_false, varO, opO, retO, pv2, pv1, pvB, pvI, cutO, rvB, isOwnL, isAppL, popO, nrefO, isLO, rngO, enmO, setTO, setIO, appO2, Qs.seq_nx, Qs.seq_rt, Qs.seq_bk, Qs.seq_ct, Qs.seq_ex, Qs.fin_nx, Qs.fin_rt, Qs.fin_ex, entryE, deref, derefV, vw, derefs, op2, cmp_lt, cmp_le, cmp_gt, cmp_ge, cmp_isN, cmp_notN, cmp_eq_ii, cmp_ne_ii, cmp_eq_ni, cmp_ne_ni, cmp_eq_ss, cmp_ne_ss, cmp_in_t, cmp_in_l, cmp_nin_l, cmp_nin_t, okds_s, okds_t, okds_l, okds_i, okds_n, okdc_nil, okdc_cons, okdc_non, okdc_bl, okdc_int, okdc_str, cmp_eq_l0, cmp_ne_l0, cmp_eq_t0, cmp_ne_t0, sl1_t, sl1_l, isNonW, idx2, atI, ixN, blt1, truth, RV.w, slOf, toI, items, isLst, setT, setTs, vB, mulOk, rngOk_small, szOk_small, wHr_nil, wHr_cons, hrO, hAsg, hev, hevs, inE, offE, keepV_n0, keepV_nn, keepV_v, keepV_o]
              refine wCmp_map (f := tW ∘ drp a) (all := rest) (fun r => if ne (drp a r) = true then some (tW (drp a r)) else none) (by simp) (fun y hy => ?_) ?_
              · simp [wE_var, wO_var, wS_retV, wT_andE, wT_orE, wT_notE, wO_non, wE_non, wT_non, wS_ret_non, wO_bl, wE_bl, wT_bl, wS_ret_bl, wO_int, wE_int, wT_int, wS_ret_int, wO_str, wE_str, wT_str, wS_ret_str, wO_tup, wE_tup, wT_tup, wS_ret_tup, wO_lst, wE_lst, wT_lst, wS_ret_lst, wO_bin, wE_bin, wT_bin, wS_ret_bin, wO_cmp, wE_cmp, wT_cmp, wS_ret_cmp, wO_andE, wE_andE, wS_ret_andE, wO_orE, wE_orE, wS_ret_orE, wO_notE, wE_notE, wS_ret_notE, wO_ifE, wE_ifE, wT_ifE, wS_ret_ifE, wO_idx, wE_idx, wT_idx, wS_ret_idx, wO_sfrom, wE_sfrom, wT_sfrom, wS_ret_sfrom, wO_upto, wE_upto, wT_upto, wS_ret_upto, wO_cut, wE_cut, wT_cut, wS_ret_cut, wO_rev, wE_rev, wT_rev, wS_ret_rev, wO_call, wE_call, wT_call, wS_ret_call, wO_blt, wE_blt, wT_blt, wS_ret_blt, wO_pop, wE_pop, wT_pop, wS_ret_pop, wO_setLen, wE_setLen, wT_setLen, wS_ret_setLen, wO_isT, wE_isT, wT_isT, wS_ret_isT, wO_comp, wE_comp, wT_comp, wS_ret_comp, wO_nref, wE_nref, wT_nref, wS_ret_nref, wO_idxOf, wE_idxOf, wT_idxOf, wS_ret_idxOf, wT_var, wA_nil, wA_cons, wOs_nil, wOs_cons, wI_seq, wI_rng, wI_enm, wSs_nil, wSs_cons, wS_asg, wS_unp, wS_par, wS_setI, wS_app, wS_ex, wS_ifS, wS_whl, wS_forS, wS_retN, wS_pass, wS_brk, wS_cnt, wS_nvr, wS_rse, wS_tryE, wOp_some, wOp_none, wOq_some, wOq_none, wN_some, wN_none, wRt_some, wRt_none, wIf_true, wIf_false, wGd_true, wGd_false, varO, opO, retO, pv2, pv1, pvB, pvI, cutO, rvB, isOwnL, isAppL, popO, nrefO, isLO, rngO, enmO, setTO, setIO, appO2, Qs.seq_nx, Qs.seq_rt, Qs.seq_bk, Qs.seq_ct, Qs.seq_ex, Qs.fin_nx, Qs.fin_rt, Qs.fin_ex, entryE, deref, derefV, vw, derefs, op2, cmp_lt, cmp_le, cmp_gt, cmp_ge, cmp_isN, cmp_notN, cmp_eq_ii, cmp_ne_ii, cmp_eq_ni, cmp_ne_ni, cmp_eq_ss, cmp_ne_ss, cmp_in_t, cmp_in_l, cmp_nin_l, cmp_nin_t, okds_s, okds_t, okds_l, okds_i, okds_n, okdc_nil, okdc_cons, okdc_non, okdc_bl, okdc_int, okdc_str, cmp_eq_l0, cmp_ne_l0, cmp_eq_t0, cmp_ne_t0, sl1_t, sl1_l, isNonW, idx2, atI, ixN, blt1, truth, RV.w, slOf, toI, items, isLst, setT, setTs, vB, mulOk, rngOk_small, szOk_small, wHr_nil, wHr_cons, hrO, hAsg, hev, hevs, inE, offE, keepV_n0, keepV_nn, keepV_v, keepV_o]
                cases h : drp a y <;> simp [wE_var, wO_var, wS_retV, wT_andE, wT_orE, wT_notE, wO_non, wE_non, wT_non, wS_ret_non, wO_bl, wE_bl, wT_bl, wS_ret_bl, wO_int, wE_int, wT_int, wS_ret_int, wO_str, wE_str, wT_str, wS_ret_str, wO_tup, wE_tup, wT_tup, wS_ret_tup, wO_lst, wE_lst, wT_lst, wS_ret_lst, wO_bin, wE_bin, wT_bin, wS_ret_bin, wO_cmp, wE_cmp, wT_cmp, wS_ret_cmp, wO_andE, wE_andE, wS_ret_andE, wO_orE, wE_orE, wS_ret_orE, wO_notE, wE_notE, wS_ret_notE, wO_ifE, wE_ifE, wT_ifE, wS_ret_ifE, wO_idx, wE_idx, wT_idx, wS_ret_idx, wO_sfrom, wE_sfrom, wT_sfrom, wS_ret_sfrom, wO_upto, wE_upto, wT_upto, wS_ret_upto, wO_cut, wE_cut, wT_cut, wS_ret_cut, wO_rev, wE_rev, wT_rev, wS_ret_rev, wO_call, wE_call, wT_call, wS_ret_call, wO_blt, wE_blt, wT_blt, wS_ret_blt, wO_pop, wE_pop, wT_pop, wS_ret_pop, wO_setLen, wE_setLen, wT_setLen, wS_ret_setLen, wO_isT, wE_isT, wT_isT, wS_ret_isT, wO_comp, wE_comp, wT_comp, wS_ret_comp, wO_nref, wE_nref, wT_nref, wS_ret_nref, wO_idxOf, wE_idxOf, wT_idxOf, wS_ret_idxOf, wT_var, wA_nil, wA_cons, wOs_nil, wOs_cons, wI_seq, wI_rng, wI_enm, wSs_nil, wSs_cons, wS_asg, wS_unp, wS_par, wS_setI, wS_app, wS_ex, wS_ifS, wS_whl, wS_forS, wS_retN, wS_pass, wS_brk, wS_cnt, wS_nvr, wS_rse, wS_tryE, wOp_some, wOp_none, wOq_some, wOq_none, wN_some, wN_none, wRt_some, wRt_none, wIf_true, wIf_false, wGd_true, wGd_false, varO, opO, retO, pv2, pv1, pvB, pvI, cutO, rvB, isOwnL, isAppL, popO, nrefO, isLO, rngO, enmO, setTO, setIO, appO2, Qs.seq_nx, Qs.seq_rt, Qs.seq_bk, Qs.seq_ct, Qs.seq_ex, Qs.fin_nx, Qs.fin_rt, Qs.fin_ex, entryE, deref, derefV, vw, derefs, op2, cmp_lt, cmp_le, cmp_gt, cmp_ge, cmp_isN, cmp_notN, cmp_eq_ii, cmp_ne_ii, cmp_eq_ni, cmp_ne_ni, cmp_eq_ss, cmp_ne_ss, cmp_in_t, cmp_in_l, cmp_nin_l, cmp_nin_t, okds_s, okds_t, okds_l, okds_i, okds_n, okdc_nil, okdc_cons, okdc_non, okdc_bl, okdc_int, okdc_str, cmp_eq_l0, cmp_ne_l0, cmp_eq_t0, cmp_ne_t0, sl1_t, sl1_l, isNonW, idx2, atI, ixN, blt1, truth, RV.w, slOf, toI, items, isLst, setT, setTs, vB, mulOk, rngOk_small, szOk_small, wHr_nil, wHr_cons, hrO, hAsg, hev, hevs, inE, offE, keepV_n0, keepV_nn, keepV_v, keepV_o, ne, h]
              · rw [show List.filterMap (fun r => if ne (drp a r) = true then some (tW (drp a r)) else none) rest = (adv a rest).map tW by rw [adv, ← fm_ne, List.filterMap_map]; rfl]
                simp [wE_var, wO_var, wS_retV, wT_andE, wT_orE, wT_notE, wO_non, wE_non, wT_non, wS_ret_non, wO_bl, wE_bl, wT_bl, wS_ret_bl, wO_int, wE_int, wT_int, wS_ret_int, wO_str, wE_str, wT_str, wS_ret_str, wO_tup, wE_tup, wT_tup, wS_ret_tup, wO_lst, wE_lst, wT_lst, wS_ret_lst, wO_bin, wE_bin, wT_bin, wS_ret_bin, wO_cmp, wE_cmp, wT_cmp, wS_ret_cmp, wO_andE, wE_andE, wS_ret_andE, wO_orE, wE_orE, wS_ret_orE, wO_notE, wE_notE, wS_ret_notE, wO_ifE, wE_ifE, wT_ifE, wS_ret_ifE, wO_idx, wE_idx, wT_idx, wS_ret_idx, wO_sfrom, wE_sfrom, wT_sfrom, wS_ret_sfrom, wO_upto, wE_upto, wT_upto, wS_ret_upto, wO_cut, wE_cut, wT_cut, wS_ret_cut, wO_rev, wE_rev, wT_rev, wS_ret_rev, wO_call, wE_call, wT_call, wS_ret_call, wO_blt, wE_blt, wT_blt, wS_ret_blt, wO_pop, wE_pop, wT_pop, wS_ret_pop, wO_setLen, wE_setLen, wT_setLen, wS_ret_setLen, wO_isT, wE_isT, wT_isT, wS_ret_isT, wO_comp, wE_comp, wT_comp, wS_ret_comp, wO_nref, wE_nref, wT_nref, wS_ret_nref, wO_idxOf, wE_idxOf, wT_idxOf, wS_ret_idxOf, wT_var, wA_nil, wA_cons, wOs_nil, wOs_cons, wI_seq, wI_rng, wI_enm, wSs_nil, wSs_cons, wS_asg, wS_unp, wS_par, wS_setI, wS_app, wS_ex, wS_ifS, wS_whl, wS_forS, wS_retN, wS_pass, wS_brk, wS_cnt, wS_nvr, wS_rse, wS_tryE, wOp_some, wOp_none, wOq_some, wOq_none, wN_some, wN_none, wRt_some, wRt_none, wIf_true, wIf_false, wGd_true, wGd_false, varO, opO, retO, pv2, pv1, pvB, pvI, cutO, rvB, isOwnL, isAppL, popO, nrefO, isLO, rngO, enmO, setTO, setIO, appO2, Qs.seq_nx, Qs.seq_rt, Qs.seq_bk, Qs.seq_ct, Qs.seq_ex, Qs.fin_nx, Qs.fin_rt, Qs.fin_ex, entryE, deref, derefV, vw, derefs, op2, cmp_lt, cmp_le, cmp_gt, cmp_ge, cmp_isN, cmp_notN, cmp_eq_ii, cmp_ne_ii, cmp_eq_ni, cmp_ne_ni, cmp_eq_ss, cmp_ne_ss, cmp_in_t, cmp_in_l, cmp_nin_l, cmp_nin_t, okds_s, okds_t, okds_l, okds_i, okds_n, okdc_nil, okdc_cons, okdc_non, okdc_bl, okdc_int, okdc_str, cmp_eq_l0, cmp_ne_l0, cmp_eq_t0, cmp_ne_t0, sl1_t, sl1_l, isNonW, idx2, atI, ixN, blt1, truth, RV.w, slOf, toI, items, isLst, setT, setTs, vB, mulOk, rngOk_small, szOk_small, wHr_nil, wHr_cons, hrO, hAsg, hev, hevs, inE, offE, keepV_n0, keepV_nn, keepV_v, keepV_o]
                rw [show sW out ++ [W.str a] = sW (out ++ [a]) from (List.map_append (l₁ := out) (l₂ := [a])).symm]
                refine ⟨_, hn ▸ hlt, out ++ [a], adv a rest, _, rfl, rfl, fun r hr => (mem_adv.mp hr).1, ?_, ?_, fun o g => ?_, fun o g => ?_⟩
                · exact Nat.le_trans (Nat.le_trans (List.length_filter_le _ _) (by simp)) hlen
                · simp; omega
                · rw [List.append_assoc]
                  exact hA _ (.cons hfe g)
                · obtain ⟨o', e, g'⟩ := hB' o g
                  cases g' with
                  | nil => exact (hrne rfl).elim
                  | cons h k =>
                    rw [hfe] at h
                    cases h
                    exact ⟨_, by rw [e, List.append_assoc]; rfl, k⟩
      · have hrne : rest = [] := by
          cases rest with
          | nil => rfl
          | cons => simp at hc
        subst hrne
        simp [wE_var, wO_var, wS_retV, wT_andE, wT_orE, wT_notE, wO_non, wE_non, wT_non, wS_ret_non, wO_bl, wE_bl, wT_bl, wS_ret_bl, wO_int, wE_int, wT_int, wS_ret_int, wO_str, wE_str, wT_str, wS_ret_str, wO_tup, wE_tup, wT_tup, wS_ret_tup, wO_lst, wE_lst, wT_lst, wS_ret_lst, wO_bin, wE_bin, wT_bin, wS_ret_bin, wO_cmp, wE_cmp, wT_cmp, wS_ret_cmp, wO_andE, wE_andE, wS_ret_andE, wO_orE, wE_orE, wS_ret_orE, wO_notE, wE_notE, wS_ret_notE, wO_ifE, wE_ifE, wT_ifE, wS_ret_ifE, wO_idx, wE_idx, wT_idx, wS_ret_idx, wO_sfrom, wE_sfrom, wT_sfrom, wS_ret_sfrom, wO_upto, wE_upto, wT_upto, wS_ret_upto, wO_cut, wE_cut, wT_cut, wS_ret_cut, wO_rev, wE_rev, wT_rev, wS_ret_rev, wO_call, wE_call, wT_call, wS_ret_call, wO_blt, wE_blt, wT_blt, wS_ret_blt, wO_pop, wE_pop, wT_pop, wS_ret_pop, wO_setLen, wE_setLen, wT_setLen, wS_ret_setLen, wO_isT, wE_isT, wT_isT, wS_ret_isT, wO_comp, wE_comp, wT_comp, wS_ret_comp, wO_nref, wE_nref, wT_nref, wS_ret_nref, wO_idxOf, wE_idxOf, wT_idxOf, wS_ret_idxOf, wT_var, wA_nil, wA_cons, wOs_nil, wOs_cons, wI_seq, wI_rng, wI_enm, wSs_nil, wSs_cons, wS_asg, wS_unp, wS_par, wS_setI, wS_app, wS_ex, wS_ifS, wS_whl, wS_forS, wS_retN, wS_pass, wS_brk, wS_cnt, wS_nvr, wS_rse, wS_tryE, wOp_some, wOp_none, wOq_some, wOq_none, wN_some, wN_none, wRt_some, wRt_none, wIf_true, wIf_false, wGd_true, wGd_false, varO, opO, retO, pv2, pv1, pvB, pvI, cutO, rvB, isOwnL, isAppL, popO, nrefO, isLO, rngO, enmO, setTO, setIO, appO2, Qs.seq_nx, Qs.seq_rt, Qs.seq_bk, Qs.seq_ct, Qs.seq_ex, Qs.fin_nx, Qs.fin_rt, Qs.fin_ex, entryE, deref, derefV, vw, derefs, op2, cmp_lt, cmp_le, cmp_gt, cmp_ge, cmp_isN, cmp_notN, cmp_eq_ii, cmp_ne_ii, cmp_eq_ni, cmp_ne_ni, cmp_eq_ss, cmp_ne_ss, cmp_in_t, cmp_in_l, cmp_nin_l, cmp_nin_t, okds_s, okds_t, okds_l, okds_i, okds_n, okdc_nil, okdc_cons, okdc_non, okdc_bl, okdc_int, okdc_str, cmp_eq_l0, cmp_ne_l0, cmp_eq_t0, cmp_ne_t0, sl1_t, sl1_l, isNonW, idx2, atI, ixN, blt1, truth, RV.w, slOf, toI, items, isLst, setT, setTs, vB, mulOk, rngOk_small, szOk_small, wHr_nil, wHr_cons, hrO, hAsg, hev, hevs, inE, offE, keepV_n0, keepV_nn, keepV_v, keepV_o]
        have := hA [] .nil
        rw [List.append_nil] at this
        exact hok _ this
def dup (ys : List Str) : Bool := decide (news ys ys.length < ys.length)
theorem strsW_s : ∀ xs : List Str, strsW (sW xs) = some xs
  | [] => rfl
  | x :: xs => by
    show (strsW (sW xs)).map (x :: ·) = _
    rw [strsW_s xs]; rfl
theorem slen_s {xs : List Str} (h : xs.length < 1000) : slenW (tW xs) = some (.v (.int (news xs xs.length : Nat))) := by
  show ((strsW (sW xs)).bind fun ys => if decide (ys.length + 1 < scanBound) then some (RV.v (W.int (news ys ys.length : Nat))) else none) = _
  rw [strsW_s, Option.bind_some, if_pos]
  exact decide_eq_true (Nat.lt_trans (show xs.length + 1 < 1001 by omega) (by decide))
theorem enumW_map {α : Type} (f : α → W) : ∀ (n : Nat) (l : List α), enumW n (l.map f) = (l.zipIdx n).map fun p => W.tup [.int (p.2 : Nat), f p.1]
  | _, [] => rfl
  | n, x :: l => by
    rw [List.map_cons, List.zipIdx_cons, List.map_cons, ← enumW_map f (n + 1) l]; rfl
/-- merge -/
theorem merge_w {lists : List (List Str)} (hB : T.lookup 0 = some f_blocking_list) (hG : T.lookup 2 = some f_ring_of) (hF : T.lookup 3 = some f_merge_for) (hP : T.lookup 6 = some f_merge) (hl : lists.length < 100000) (ht : tot lists < 100000) (hs : ∀ r ∈ lists, r.length < 1000)
    (hok : (∀ r ∈ lists, dup r = false) → ∀ out, Go (lists.filter ne) out → q.k (.v (tW out)) S) (hx : (∀ r ∈ lists, dup r = false) → (¬ ∃ out, Go (lists.filter ne) out) → ∀ l, x.x 1 [("ring", tW l), ("name", .non)] S)
    (hd : ∀ pre r post, lists = pre ++ r :: post → (∀ r ∈ pre, dup r = false) → dup r = true → x.x 4 [("index", .int (pre.length : Nat))] S) : @wK (callN T (k + 4) 6 [.tup (lists.map tW)] S) q x := by
  refine wK_enter hP rfl ?_
  unfold f_merge
  simp [wE_var, wO_var, wS_retV, wT_andE, wT_orE, wT_notE, wO_non, wE_non, wT_non, wS_ret_non, wO_bl, wE_bl, wT_bl, wS_ret_bl, wO_int, wE_int, wT_int, wS_ret_int, wO_str, wE_str, wT_str, wS_ret_str, wO_tup, wE_tup, wT_tup, wS_ret_tup, wO_lst, wE_lst, wT_lst, wS_ret_lst, wO_bin, wE_bin, wT_bin, wS_ret_bin, wO_cmp, wE_cmp, wT_cmp, wS_ret_cmp, wO_andE, wE_andE, wS_ret_andE, wO_orE, wE_orE, wS_ret_orE, wO_notE, wE_notE, wS_ret_notE, wO_ifE, wE_ifE, wT_ifE, wS_ret_ifE, wO_idx, wE_idx, wT_idx, wS_ret_idx, wO_sfrom, wE_sfrom, wT_sfrom, wS_ret_sfrom, wO_upto, wE_upto, wT_upto, wS_ret_upto, wO_cut, wE_cut, wT_cut, wS_ret_cut, wO_rev, wE_rev, wT_rev, wS_ret_rev, wO_call, wE_call, wT_call, wS_ret_call, wO_blt, wE_blt, wT_blt, wS_ret_blt, wO_pop, wE_pop, wT_pop, wS_ret_pop, wO_setLen, wE_setLen, wT_setLen, wS_ret_setLen, wO_isT, wE_isT, wT_isT, wS_ret_isT, wO_comp, wE_comp, wT_comp, wS_ret_comp, wO_nref, wE_nref, wT_nref, wS_ret_nref, wO_idxOf, wE_idxOf, wT_idxOf, wS_ret_idxOf, wT_var, wA_nil, wA_cons, wOs_nil, wOs_cons, wI_seq, wI_rng, wI_enm, wSs_nil, wSs_cons, wS_asg, wS_unp, wS_par, wS_setI, wS_app, wS_ex, wS_ifS, wS_whl, wS_forS, wS_retN, wS_pass, wS_brk, wS_cnt, wS_nvr, wS_rse, wS_tryE, wOp_some, wOp_none, wOq_some, wOq_none, wN_some, wN_none, wRt_some, wRt_none, wIf_true, wIf_false, wGd_true, wGd_false, varO, opO, retO, pv2, pv1, pvB, pvI, cutO, rvB, isOwnL, isAppL, popO, nrefO, isLO, rngO, enmO, setTO, setIO, appO2, Qs.seq_nx, Qs.seq_rt, Qs.seq_bk, Qs.seq_ct, Qs.seq_ex, Qs.fin_nx, Qs.fin_rt, Qs.fin_ex, entryE, deref, derefV, vw, derefs, op2, cmp_lt, cmp_le, cmp_gt, cmp_ge, cmp_isN, cmp_notN, cmp_eq_ii, cmp_ne_ii, cmp_eq_ni, cmp_ne_ni, cmp_eq_ss, cmp_ne_ss, cmp_in_t, cmp_in_l, cmp_nin_l, cmp_nin_t, okds_s, okds_t, okds_l, okds_i, okds_n, okdc_nil, okdc_cons, okdc_non, okdc_bl, okdc_int, okdc_str, cmp_eq_l0, cmp_ne_l0, cmp_eq_t0, cmp_ne_t0, sl1_t, sl1_l, isNonW, idx2, atI, ixN, blt1, truth, RV.w, slOf, toI, items, isLst, setT, setTs, vB, mulOk, rngOk_small, szOk_small, wHr_nil, wHr_cons, hrO, hAsg, hev, hevs, inE, offE, keepV_n0, keepV_nn, keepV_v, keepV_o, enumW_map]
  refine wFor_inv (enc := fun p : List Str × Nat => W.tup [.int (p.2 : Nat), tW p.1]) (all := lists.zipIdx) (fun pre post st => ∃ (o1 o2 : Option Sl), st = ⟨[some (.val (.tup (lists.map tW))), o1, o2], S⟩ ∧ ∀ p ∈ pre, dup p.1 = false) ?_ ?_ ?_
  · exact ⟨_, _, rfl, fun p h => by cases h⟩
  · rintro pre ⟨r, i⟩ post st e ⟨o1, o2, rfl, hpre⟩
    have hi : i = pre.length ∧ lists = pre.map (·.1) ++ r :: post.map (·.1) := by
      have h1 := congrArg (List.map (·.1)) e
      have h2 := congrArg (fun l => l[pre.length]?) e
      simp at h1 h2
      exact ⟨by omega, h1⟩
    obtain ⟨rfl, hlists⟩ := hi
    have hz := slen_s (hs r (by rw [hlists]; simp))
    simp [wE_var, wO_var, wS_retV, wT_andE, wT_orE, wT_notE, wO_non, wE_non, wT_non, wS_ret_non, wO_bl, wE_bl, wT_bl, wS_ret_bl, wO_int, wE_int, wT_int, wS_ret_int, wO_str, wE_str, wT_str, wS_ret_str, wO_tup, wE_tup, wT_tup, wS_ret_tup, wO_lst, wE_lst, wT_lst, wS_ret_lst, wO_bin, wE_bin, wT_bin, wS_ret_bin, wO_cmp, wE_cmp, wT_cmp, wS_ret_cmp, wO_andE, wE_andE, wS_ret_andE, wO_orE, wE_orE, wS_ret_orE, wO_notE, wE_notE, wS_ret_notE, wO_ifE, wE_ifE, wT_ifE, wS_ret_ifE, wO_idx, wE_idx, wT_idx, wS_ret_idx, wO_sfrom, wE_sfrom, wT_sfrom, wS_ret_sfrom, wO_upto, wE_upto, wT_upto, wS_ret_upto, wO_cut, wE_cut, wT_cut, wS_ret_cut, wO_rev, wE_rev, wT_rev, wS_ret_rev, wO_call, wE_call, wT_call, wS_ret_call, wO_blt, wE_blt, wT_blt, wS_ret_blt, wO_pop, wE_pop, wT_pop, wS_ret_pop, wO_setLen, wE_setLen, wT_setLen, wS_ret_setLen, wO_isT, wE_isT, wT_isT, wS_ret_isT, wO_comp, wE_comp, wT_comp, wS_ret_comp, wO_nref, wE_nref, wT_nref, wS_ret_nref, wO_idxOf, wE_idxOf, wT_idxOf, wS_ret_idxOf, wT_var, wA_nil, wA_cons, wOs_nil, wOs_cons, wI_seq, wI_rng, wI_enm, wSs_nil, wSs_cons, wS_asg, wS_unp, wS_par, wS_setI, wS_app, wS_ex, wS_ifS, wS_whl, wS_forS, wS_retN, wS_pass, wS_brk, wS_cnt, wS_nvr, wS_rse, wS_tryE, wOp_some, wOp_none, wOq_some, wOq_none, wN_some, wN_none, wRt_some, wRt_none, wIf_true, wIf_false, wGd_true, wGd_false, varO, opO, retO, pv2, pv1, pvB, pvI, cutO, rvB, isOwnL, isAppL, popO, nrefO, isLO, rngO, enmO, setTO, setIO, appO2, Qs.seq_nx, Qs.seq_rt, Qs.seq_bk, Qs.seq_ct, Qs.seq_ex, Qs.fin_nx, Qs.fin_rt, Qs.fin_ex, entryE, deref, derefV, vw, derefs, op2, cmp_lt, cmp_le, cmp_gt, cmp_ge, cmp_isN, cmp_notN, cmp_eq_ii, cmp_ne_ii, cmp_eq_ni, cmp_ne_ni, cmp_eq_ss, cmp_ne_ss, cmp_in_t, cmp_in_l, cmp_nin_l, cmp_nin_t, okds_s, okds_t, okds_l, okds_i, okds_n, okdc_nil, okdc_cons, okdc_non, okdc_bl, okdc_int, okdc_str, cmp_eq_l0, cmp_ne_l0, cmp_eq_t0, cmp_ne_t0, sl1_t, sl1_l, isNonW, idx2, atI, ixN, blt1, truth, RV.w, slOf, toI, items, isLst, setT, setTs, vB, mulOk, rngOk_small, szOk_small, wHr_nil, wHr_cons, hrO, hAsg, hev, hevs, inE, offE, keepV_n0, keepV_nn, keepV_v, keepV_o, hz]
    refine wIf_split (fun hc => ?_) (fun hc => ?_)
    · simp [wE_var, wO_var, wS_retV, wT_andE, wT_orE, wT_notE, wO_non, wE_non, wT_non, wS_ret_non, wO_bl, wE_bl, wT_bl, wS_ret_bl, wO_int, wE_int, wT_int, wS_ret_int, wO_str, wE_str, wT_str, wS_ret_str, wO_tup, wE_tup, wT_tup, wS_ret_tup, wO_lst, wE_lst, wT_lst, wS_ret_lst, wO_bin, wE_bin, wT_bin, wS_ret_bin, wO_cmp, wE_cmp, wT_cmp, wS_ret_cmp, wO_andE, wE_andE, wS_ret_andE, wO_orE, wE_orE, wS_ret_orE, wO_notE, wE_notE, wS_ret_notE, wO_ifE, wE_ifE, wT_ifE, wS_ret_ifE, wO_idx, wE_idx, wT_idx, wS_ret_idx, wO_sfrom, wE_sfrom, wT_sfrom, wS_ret_sfrom, wO_upto, wE_upto, wT_upto, wS_ret_upto, wO_cut, wE_cut, wT_cut, wS_ret_cut, wO_rev, wE_rev, wT_rev, wS_ret_rev, wO_call, wE_call, wT_call, wS_ret_call, wO_blt, wE_blt, wT_blt, wS_ret_blt, wO_pop, wE_pop, wT_pop, wS_ret_pop, wO_setLen, wE_setLen, wT_setLen, wS_ret_setLen, wO_isT, wE_isT, wT_isT, wS_ret_isT, wO_comp, wE_comp, wT_comp, wS_ret_comp, wO_nref, wE_nref, wT_nref, wS_ret_nref, wO_idxOf, wE_idxOf, wT_idxOf, wS_ret_idxOf, wT_var, wA_nil, wA_cons, wOs_nil, wOs_cons, wI_seq, wI_rng, wI_enm, wSs_nil, wSs_cons, wS_asg, wS_unp, wS_par, wS_setI, wS_app, wS_ex, wS_ifS, wS_whl, wS_forS, wS_retN, wS_pass, wS_brk, wS_cnt, wS_nvr, wS_rse, wS_tryE, wOp_some, wOp_none, wOq_some, wOq_none, wN_some, wN_none, wRt_some, wRt_none, wIf_true, wIf_false, wGd_true, wGd_false, varO, opO, retO, pv2, pv1, pvB, pvI, cutO, rvB, isOwnL, isAppL, popO, nrefO, isLO, rngO, enmO, setTO, setIO, appO2, Qs.seq_nx, Qs.seq_rt, Qs.seq_bk, Qs.seq_ct, Qs.seq_ex, Qs.fin_nx, Qs.fin_rt, Qs.fin_ex, entryE, deref, derefV, vw, derefs, op2, cmp_lt, cmp_le, cmp_gt, cmp_ge, cmp_isN, cmp_notN, cmp_eq_ii, cmp_ne_ii, cmp_eq_ni, cmp_ne_ni, cmp_eq_ss, cmp_ne_ss, cmp_in_t, cmp_in_l, cmp_nin_l, cmp_nin_t, okds_s, okds_t, okds_l, okds_i, okds_n, okdc_nil, okdc_cons, okdc_non, okdc_bl, okdc_int, okdc_str, cmp_eq_l0, cmp_ne_l0, cmp_eq_t0, cmp_ne_t0, sl1_t, sl1_l, isNonW, idx2, atI, ixN, blt1, truth, RV.w, slOf, toI, items, isLst, setT, setTs, vB, mulOk, rngOk_small, szOk_small, wHr_nil, wHr_cons, hrO, hAsg, hev, hevs, inE, offE, keepV_n0, keepV_nn, keepV_v, keepV_o]
      have := hd _ _ _ hlists (fun r hr => ?_) hc
      · simpa using this
      · obtain ⟨p, hp, rfl⟩ := List.mem_map.mp hr
        exact hpre p hp
    · simp [wE_var, wO_var, wS_retV, wT_andE, wT_orE, wT_notE, wO_non, wE_non, wT_non, wS_ret_non, wO_bl, wE_bl, wT_bl, wS_ret_bl, wO_int, wE_int, wT_int, wS_ret_int, wO_str, wE_str, wT_str, wS_ret_str, wO_tup, wE_tup, wT_tup, wS_ret_tup, wO_lst, wE_lst, wT_lst, wS_ret_lst, wO_bin, wE_bin, wT_bin, wS_ret_bin, wO_cmp, wE_cmp, wT_cmp, wS_ret_cmp, wO_andE, wE_andE, wS_ret_andE, wO_orE, wE_orE, wS_ret_orE, wO_notE, wE_notE, wS_ret_notE, wO_ifE, wE_ifE, wT_ifE, wS_ret_ifE, wO_idx, wE_idx, wT_idx, wS_ret_idx, wO_sfrom, wE_sfrom, wT_sfrom, wS_ret_sfrom, wO_upto, wE_upto, wT_upto, wS_ret_upto, wO_cut, wE_cut, wT_cut, wS_ret_cut, wO_rev, wE_rev, wT_rev, wS_ret_rev, wO_call, wE_call, wT_call, wS_ret_call, wO_blt, wE_blt, wT_blt, wS_ret_blt, wO_pop, wE_pop, wT_pop, wS_ret_pop, wO_setLen, wE_setLen, wT_setLen, wS_ret_setLen, wO_isT, wE_isT, wT_isT, wS_ret_isT, wO_comp, wE_comp, wT_comp, wS_ret_comp, wO_nref, wE_nref, wT_nref, wS_ret_nref, wO_idxOf, wE_idxOf, wT_idxOf, wS_ret_idxOf, wT_var, wA_nil, wA_cons, wOs_nil, wOs_cons, wI_seq, wI_rng, wI_enm, wSs_nil, wSs_cons, wS_asg, wS_unp, wS_par, wS_setI, wS_app, wS_ex, wS_ifS, wS_whl, wS_forS, wS_retN, wS_pass, wS_brk, wS_cnt, wS_nvr, wS_rse, wS_tryE, wOp_some, wOp_none, wOq_some, wOq_none, wN_some, wN_none, wRt_some, wRt_none, wIf_true, wIf_false, wGd_true, wGd_false, varO, opO, retO, pv2, pv1, pvB, pvI, cutO, rvB, isOwnL, isAppL, popO, nrefO, isLO, rngO, enmO, setTO, setIO, appO2, Qs.seq_nx, Qs.seq_rt, Qs.seq_bk, Qs.seq_ct, Qs.seq_ex, Qs.fin_nx, Qs.fin_rt, Qs.fin_ex, entryE, deref, derefV, vw, derefs, op2, cmp_lt, cmp_le, cmp_gt, cmp_ge, cmp_isN, cmp_notN, cmp_eq_ii, cmp_ne_ii, cmp_eq_ni, cmp_ne_ni, cmp_eq_ss, cmp_ne_ss, cmp_in_t, cmp_in_l, cmp_nin_l, cmp_nin_t, okds_s, okds_t, okds_l, okds_i, okds_n, okdc_nil, okdc_cons, okdc_non, okdc_bl, okdc_int, okdc_str, cmp_eq_l0, cmp_ne_l0, cmp_eq_t0, cmp_ne_t0, sl1_t, sl1_l, isNonW, idx2, atI, ixN, blt1, truth, RV.w, slOf, toI, items, isLst, setT, setTs, vB, mulOk, rngOk_small, szOk_small, wHr_nil, wHr_cons, hrO, hAsg, hev, hevs, inE, offE, keepV_n0, keepV_nn, keepV_v, keepV_o]
      refine ⟨_, _, rfl, fun p hp => ?_⟩
      rcases List.mem_append.mp hp with h | h
      · exact hpre p h
      · simp at h
        subst h
        exact hc
  · rintro st ⟨o1, o2, rfl, hpre⟩
    have hno : ∀ r ∈ lists, dup r = false := by
      intro r hr
      obtain ⟨i, hi, e⟩ := List.mem_iff_getElem.mp hr
      exact hpre (r, i) (by rw [List.mem_zipIdx_iff_getElem?]; simp [← e, hi])
    simp [wE_var, wO_var, wS_retV, wT_andE, wT_orE, wT_notE, wO_non, wE_non, wT_non, wS_ret_non, wO_bl, wE_bl, wT_bl, wS_ret_bl, wO_int, wE_int, wT_int, wS_ret_int, wO_str, wE_str, wT_str, wS_ret_str, wO_tup, wE_tup, wT_tup, wS_ret_tup, wO_lst, wE_lst, wT_lst, wS_ret_lst, wO_bin, wE_bin, wT_bin, wS_ret_bin, wO_cmp, wE_cmp, wT_cmp, wS_ret_cmp, wO_andE, wE_andE, wS_ret_andE, wO_orE, wE_orE, wS_ret_orE, wO_notE, wE_notE, wS_ret_notE, wO_ifE, wE_ifE, wT_ifE, wS_ret_ifE, wO_idx, wE_idx, wT_idx, wS_ret_idx, wO_sfrom, wE_sfrom, wT_sfrom, wS_ret_sfrom, wO_upto, wE_upto, wT_upto, wS_ret_upto, wO_cut, wE_cut, wT_cut, wS_ret_cut, wO_rev, wE_rev, wT_rev, wS_ret_rev, wO_call, wE_call, wT_call, wS_ret_call, wO_blt, wE_blt, wT_blt, wS_ret_blt, wO_pop, wE_pop, wT_pop, wS_ret_pop, wO_setLen, wE_setLen, wT_setLen, wS_ret_setLen, wO_isT, wE_isT, wT_isT, wS_ret_isT, wO_comp, wE_comp, wT_comp, wS_ret_comp, wO_nref, wE_nref, wT_nref, wS_ret_nref, wO_idxOf, wE_idxOf, wT_idxOf, wS_ret_idxOf, wT_var, wA_nil, wA_cons, wOs_nil, wOs_cons, wI_seq, wI_rng, wI_enm, wSs_nil, wSs_cons, wS_asg, wS_unp, wS_par, wS_setI, wS_app, wS_ex, wS_ifS, wS_whl, wS_forS, wS_retN, wS_pass, wS_brk, wS_cnt, wS_nvr, wS_rse, wS_tryE, wOp_some, wOp_none, wOq_some, wOq_none, wN_some, wN_none, wRt_some, wRt_none, wIf_true, wIf_false, wGd_true, wGd_false, varO, opO, retO, pv2, pv1, pvB, pvI, cutO, rvB, isOwnL, isAppL, popO, nrefO, isLO, rngO, enmO, setTO, setIO, appO2, Qs.seq_nx, Qs.seq_rt, Qs.seq_bk, Qs.seq_ct, Qs.seq_ex, Qs.fin_nx, Qs.fin_rt, Qs.fin_ex, entryE, deref, derefV, vw, derefs, op2, cmp_lt, cmp_le, cmp_gt, cmp_ge, cmp_isN, cmp_notN, cmp_eq_ii, cmp_ne_ii, cmp_eq_ni, cmp_ne_ni, cmp_eq_ss, cmp_ne_ss, cmp_in_t, cmp_in_l, cmp_nin_l, cmp_nin_t, okds_s, okds_t, okds_l, okds_i, okds_n, okdc_nil, okdc_cons, okdc_non, okdc_bl, okdc_int, okdc_str, cmp_eq_l0, cmp_ne_l0, cmp_eq_t0, cmp_ne_t0, sl1_t, sl1_l, isNonW, idx2, atI, ixN, blt1, truth, RV.w, slOf, toI, items, isLst, setT, setTs, vB, mulOk, rngOk_small, szOk_small, wHr_nil, wHr_cons, hrO, hAsg, hev, hevs, inE, offE, keepV_n0, keepV_nn, keepV_v, keepV_o]
    refine merge_for_w hB hG hF hl ht (fun out g => ?_) fun hn l => ?_
    · exact hok hno out g
    · exact hx hno hn l
end
end LB

set_option Elab.async false
set_option linter.all false
set_option maxRecDepth 100000
set_option maxHeartbeats 4000000
/-! N03: k03's law, what it computes. -/
namespace LB
open PySem L2 LL Fn Mrg
def wr (lists : List (List Str)) : List Nat := (List.range lists.length).filter fun k => match lists[k]? with
  | some r => dup r
  | none => false
theorem wr_map (lists : List (List Str)) : (List.range lists.length).filterMap (fun k => match lists[k]? with
    | some r => if dup r = true then some (W.int (k : Nat)) else none
    | none => none) = (wr lists).map fun k : Nat => W.int k := by
  unfold wr
  induction List.range lists.length with
  | nil => rfl
  | cons k l ih =>
    rw [List.filterMap_cons, List.filter_cons, ih]
    cases lists[k]? with
    | none => simp
    | some r => cases h : dup r <;> simp [h]
theorem wr_nil {lists : List (List Str)} (h : ∀ r ∈ lists, dup r = false) : wr lists = [] := by
  unfold wr
  rw [List.filter_eq_nil_iff]
  intro k hk
  have hk : k < lists.length := List.mem_range.mp hk
  simp [hk, h _ (List.getElem_mem hk)]
theorem wr_cons {pre post : List (List Str)} {r : List Str} (h : ∀ r ∈ pre, dup r = false) (hr : dup r = true) : ∃ t, wr (pre ++ r :: post) = pre.length :: t := by
  unfold wr
  rw [List.length_append, List.range_add, List.filter_append]
  have e1 : (List.range pre.length).filter (fun k => match (pre ++ r :: post)[k]? with
      | some r => dup r
      | none => false) = [] := by
    rw [List.filter_eq_nil_iff]
    intro k hk
    have hk : k < pre.length := List.mem_range.mp hk
    rw [List.getElem?_append_left hk]
    simp [hk, h _ (List.getElem_mem hk)]
  rw [e1, List.length_cons, Nat.add_comm post.length 1, List.range_add, List.map_append, List.filter_append]
  simp [hr]
section
variable {T : FT} {k : Nat} {ns : List Int}
theorem law03 (h0 : T.lookup 0 = some f_blocking_list) (h2 : T.lookup 2 = some f_ring_of) (h3 : T.lookup 3 = some f_merge_for) (h5 : T.lookup 5 = some f__law_taken) (h6 : T.lookup 6 = some f_merge) (h7 : T.lookup 7 = some f__law_pick) (h8 : T.lookup 8 = some f__law_some_bases) (h9 : T.lookup 9 = some f__law_words) (h10 : T.lookup 10 = some f_law) : ∃ S, callN T 10 10 [.scr ns] [] = .ok (.v (.bl true)) S := by
  suffices h : @wK (callN T 10 10 [.scr ns] []) ⟨fun r _ => r = .v (.bl true)⟩ ⟨fun _ _ _ => False⟩ by
    obtain ⟨r', S, e, rfl⟩ := wK_ok h
    exact ⟨S, e⟩
  refine wK_enter h10 rfl ?_
  unfold f_law
  simp [wE_var, wO_var, wS_retV, wT_andE, wT_orE, wT_notE, wO_non, wE_non, wT_non, wS_ret_non, wO_bl, wE_bl, wT_bl, wS_ret_bl, wO_int, wE_int, wT_int, wS_ret_int, wO_str, wE_str, wT_str, wS_ret_str, wO_tup, wE_tup, wT_tup, wS_ret_tup, wO_lst, wE_lst, wT_lst, wS_ret_lst, wO_bin, wE_bin, wT_bin, wS_ret_bin, wO_cmp, wE_cmp, wT_cmp, wS_ret_cmp, wO_andE, wE_andE, wS_ret_andE, wO_orE, wE_orE, wS_ret_orE, wO_notE, wE_notE, wS_ret_notE, wO_ifE, wE_ifE, wT_ifE, wS_ret_ifE, wO_idx, wE_idx, wT_idx, wS_ret_idx, wO_sfrom, wE_sfrom, wT_sfrom, wS_ret_sfrom, wO_upto, wE_upto, wT_upto, wS_ret_upto, wO_cut, wE_cut, wT_cut, wS_ret_cut, wO_rev, wE_rev, wT_rev, wS_ret_rev, wO_call, wE_call, wT_call, wS_ret_call, wO_blt, wE_blt, wT_blt, wS_ret_blt, wO_pop, wE_pop, wT_pop, wS_ret_pop, wO_setLen, wE_setLen, wT_setLen, wS_ret_setLen, wO_isT, wE_isT, wT_isT, wS_ret_isT, wO_comp, wE_comp, wT_comp, wS_ret_comp, wO_nref, wE_nref, wT_nref, wS_ret_nref, wO_idxOf, wE_idxOf, wT_idxOf, wS_ret_idxOf, wT_var, wA_nil, wA_cons, wOs_nil, wOs_cons, wI_seq, wI_rng, wI_enm, wSs_nil, wSs_cons, wS_asg, wS_unp, wS_par, wS_setI, wS_app, wS_ex, wS_ifS, wS_whl, wS_forS, wS_retN, wS_pass, wS_brk, wS_cnt, wS_nvr, wS_rse, wS_tryE, wOp_some, wOp_none, wOq_some, wOq_none, wN_some, wN_none, wRt_some, wRt_none, wIf_true, wIf_false, wGd_true, wGd_false, varO, opO, retO, pv2, pv1, pvB, pvI, cutO, rvB, isOwnL, isAppL, popO, nrefO, isLO, rngO, enmO, setTO, setIO, appO2, Qs.seq_nx, Qs.seq_rt, Qs.seq_bk, Qs.seq_ct, Qs.seq_ex, Qs.fin_nx, Qs.fin_rt, Qs.fin_ex, entryE, deref, derefV, vw, derefs, op2, cmp_lt, cmp_le, cmp_gt, cmp_ge, cmp_isN, cmp_notN, cmp_eq_ii, cmp_ne_ii, cmp_eq_ni, cmp_ne_ni, cmp_eq_ss, cmp_ne_ss, cmp_in_t, cmp_in_l, cmp_nin_l, cmp_nin_t, okds_s, okds_t, okds_l, okds_i, okds_n, okdc_nil, okdc_cons, okdc_non, okdc_bl, okdc_int, okdc_str, cmp_eq_l0, cmp_ne_l0, cmp_eq_t0, cmp_ne_t0, sl1_t, sl1_l, isNonW, idx2, atI, ixN, blt1, truth, RV.w, slOf, toI, items, isLst, setT, setTs, vB, mulOk, rngOk_small, szOk_small, wHr_nil, wHr_cons, hrO, hAsg, hev, hevs, inE, offE, keepV_n0, keepV_nn, keepV_v, keepV_o]
  refine words_w h5 h9 ⟨0, 0, 0, by omega, rfl⟩ fun l S1 hS1 nd hl _ => ?_
  have e5 : slc2 none (some 5) (lW l) = some (.f .lst (sW (l.take 5))) := by rw [show (5 : Int) = ((5 : Nat) : Int) from rfl, slu_l (by simp [hl]), ← List.map_take]
  simp [wE_var, wO_var, wS_retV, wT_andE, wT_orE, wT_notE, wO_non, wE_non, wT_non, wS_ret_non, wO_bl, wE_bl, wT_bl, wS_ret_bl, wO_int, wE_int, wT_int, wS_ret_int, wO_str, wE_str, wT_str, wS_ret_str, wO_tup, wE_tup, wT_tup, wS_ret_tup, wO_lst, wE_lst, wT_lst, wS_ret_lst, wO_bin, wE_bin, wT_bin, wS_ret_bin, wO_cmp, wE_cmp, wT_cmp, wS_ret_cmp, wO_andE, wE_andE, wS_ret_andE, wO_orE, wE_orE, wS_ret_orE, wO_notE, wE_notE, wS_ret_notE, wO_ifE, wE_ifE, wT_ifE, wS_ret_ifE, wO_idx, wE_idx, wT_idx, wS_ret_idx, wO_sfrom, wE_sfrom, wT_sfrom, wS_ret_sfrom, wO_upto, wE_upto, wT_upto, wS_ret_upto, wO_cut, wE_cut, wT_cut, wS_ret_cut, wO_rev, wE_rev, wT_rev, wS_ret_rev, wO_call, wE_call, wT_call, wS_ret_call, wO_blt, wE_blt, wT_blt, wS_ret_blt, wO_pop, wE_pop, wT_pop, wS_ret_pop, wO_setLen, wE_setLen, wT_setLen, wS_ret_setLen, wO_isT, wE_isT, wT_isT, wS_ret_isT, wO_comp, wE_comp, wT_comp, wS_ret_comp, wO_nref, wE_nref, wT_nref, wS_ret_nref, wO_idxOf, wE_idxOf, wT_idxOf, wS_ret_idxOf, wT_var, wA_nil, wA_cons, wOs_nil, wOs_cons, wI_seq, wI_rng, wI_enm, wSs_nil, wSs_cons, wS_asg, wS_unp, wS_par, wS_setI, wS_app, wS_ex, wS_ifS, wS_whl, wS_forS, wS_retN, wS_pass, wS_brk, wS_cnt, wS_nvr, wS_rse, wS_tryE, wOp_some, wOp_none, wOq_some, wOq_none, wN_some, wN_none, wRt_some, wRt_none, wIf_true, wIf_false, wGd_true, wGd_false, varO, opO, retO, pv2, pv1, pvB, pvI, cutO, rvB, isOwnL, isAppL, popO, nrefO, isLO, rngO, enmO, setTO, setIO, appO2, Qs.seq_nx, Qs.seq_rt, Qs.seq_bk, Qs.seq_ct, Qs.seq_ex, Qs.fin_nx, Qs.fin_rt, Qs.fin_ex, entryE, deref, derefV, vw, derefs, op2, cmp_lt, cmp_le, cmp_gt, cmp_ge, cmp_isN, cmp_notN, cmp_eq_ii, cmp_ne_ii, cmp_eq_ni, cmp_ne_ni, cmp_eq_ss, cmp_ne_ss, cmp_in_t, cmp_in_l, cmp_nin_l, cmp_nin_t, okds_s, okds_t, okds_l, okds_i, okds_n, okdc_nil, okdc_cons, okdc_non, okdc_bl, okdc_int, okdc_str, cmp_eq_l0, cmp_ne_l0, cmp_eq_t0, cmp_ne_t0, sl1_t, sl1_l, isNonW, idx2, atI, ixN, blt1, truth, RV.w, slOf, toI, items, isLst, setT, setTs, vB, mulOk, rngOk_small, szOk_small, wHr_nil, wHr_cons, hrO, hAsg, hev, hevs, inE, offE, keepV_n0, keepV_nn, keepV_v, keepV_o, e5, -List.map_take]
  generalize hnm : l.take 5 = names
  have hnl : names.length = 5 := by rw [← hnm]; simp [hl]
  refine taken_w h5 hS1 (by omega) (by omega) fun v S2 hS2 v0 v1 => ?_
  obtain ⟨n, rfl⟩ := Int.eq_ofNat_of_zero_le v0
  have hr := rngOk_small (j := (n : Int)) (by omega) (by omega)
  simp [wE_var, wO_var, wS_retV, wT_andE, wT_orE, wT_notE, wO_non, wE_non, wT_non, wS_ret_non, wO_bl, wE_bl, wT_bl, wS_ret_bl, wO_int, wE_int, wT_int, wS_ret_int, wO_str, wE_str, wT_str, wS_ret_str, wO_tup, wE_tup, wT_tup, wS_ret_tup, wO_lst, wE_lst, wT_lst, wS_ret_lst, wO_bin, wE_bin, wT_bin, wS_ret_bin, wO_cmp, wE_cmp, wT_cmp, wS_ret_cmp, wO_andE, wE_andE, wS_ret_andE, wO_orE, wE_orE, wS_ret_orE, wO_notE, wE_notE, wS_ret_notE, wO_ifE, wE_ifE, wT_ifE, wS_ret_ifE, wO_idx, wE_idx, wT_idx, wS_ret_idx, wO_sfrom, wE_sfrom, wT_sfrom, wS_ret_sfrom, wO_upto, wE_upto, wT_upto, wS_ret_upto, wO_cut, wE_cut, wT_cut, wS_ret_cut, wO_rev, wE_rev, wT_rev, wS_ret_rev, wO_call, wE_call, wT_call, wS_ret_call, wO_blt, wE_blt, wT_blt, wS_ret_blt, wO_pop, wE_pop, wT_pop, wS_ret_pop, wO_setLen, wE_setLen, wT_setLen, wS_ret_setLen, wO_isT, wE_isT, wT_isT, wS_ret_isT, wO_comp, wE_comp, wT_comp, wS_ret_comp, wO_nref, wE_nref, wT_nref, wS_ret_nref, wO_idxOf, wE_idxOf, wT_idxOf, wS_ret_idxOf, wT_var, wA_nil, wA_cons, wOs_nil, wOs_cons, wI_seq, wI_rng, wI_enm, wSs_nil, wSs_cons, wS_asg, wS_unp, wS_par, wS_setI, wS_app, wS_ex, wS_ifS, wS_whl, wS_forS, wS_retN, wS_pass, wS_brk, wS_cnt, wS_nvr, wS_rse, wS_tryE, wOp_some, wOp_none, wOq_some, wOq_none, wN_some, wN_none, wRt_some, wRt_none, wIf_true, wIf_false, wGd_true, wGd_false, varO, opO, retO, pv2, pv1, pvB, pvI, cutO, rvB, isOwnL, isAppL, popO, nrefO, isLO, rngO, enmO, setTO, setIO, appO2, Qs.seq_nx, Qs.seq_rt, Qs.seq_bk, Qs.seq_ct, Qs.seq_ex, Qs.fin_nx, Qs.fin_rt, Qs.fin_ex, entryE, deref, derefV, vw, derefs, op2, cmp_lt, cmp_le, cmp_gt, cmp_ge, cmp_isN, cmp_notN, cmp_eq_ii, cmp_ne_ii, cmp_eq_ni, cmp_ne_ni, cmp_eq_ss, cmp_ne_ss, cmp_in_t, cmp_in_l, cmp_nin_l, cmp_nin_t, okds_s, okds_t, okds_l, okds_i, okds_n, okdc_nil, okdc_cons, okdc_non, okdc_bl, okdc_int, okdc_str, cmp_eq_l0, cmp_ne_l0, cmp_eq_t0, cmp_ne_t0, sl1_t, sl1_l, isNonW, idx2, atI, ixN, blt1, truth, RV.w, slOf, toI, items, isLst, setT, setTs, vB, mulOk, rngOk_small, szOk_small, wHr_nil, wHr_cons, hrO, hAsg, hev, hevs, inE, offE, keepV_n0, keepV_nn, keepV_v, keepV_o, hr]
  refine wFor_inv (enc := fun k : Nat => W.int k) (all := List.range n) (fun pre post st => ∃ (lists : List (List Str)) (S' : List SO) (sn : Sl) (o2 o3 o4 o7 o8 o9 o10 o11 : Option Sl), st = ⟨[some (.val (.scr ns)), some (.val (.ref 0)), o2, o3, o4, some sn, some (.val (.tup (lists.map tW))), o7, o8, o9, o10, o11], S'⟩ ∧ (sn = .val (lW names) ∨ sn = .own .lst (sW names)) ∧ Row ns [] S' ∧ lists.length = pre.length ∧ ∀ r ∈ lists, r.length ≤ 6) ?_ ?_ ?_
  · exact ⟨[], S2, _, _, _, _, _, _, _, _, _, rfl, .inr rfl, hS2, rfl, fun r h => by cases h⟩
  · rintro pre y post st e ⟨lists, S', sn, o2, o3, o4, o7, o8, o9, o10, o11, rfl, hsn, hR, hlen, hsz⟩
    have hpre : pre.length < n := by
      have := congrArg List.length e
      simp at this; omega
    have hz1 : szOk (lists.length + 1) = true := szOk_small (by omega)
    have hfin : ∀ b : List Str, b.length ≤ 6 → ∀ r ∈ lists ++ [b], r.length ≤ 6 := by
      intro b hb r hr
      rcases List.mem_append.mp hr with h | h
      · exact hsz r h
      · simp at h; subst h; exact hb
    rcases hsn with rfl | rfl
    all_goals
      simp [wE_var, wO_var, wS_retV, wT_andE, wT_orE, wT_notE, wO_non, wE_non, wT_non, wS_ret_non, wO_bl, wE_bl, wT_bl, wS_ret_bl, wO_int, wE_int, wT_int, wS_ret_int, wO_str, wE_str, wT_str, wS_ret_str, wO_tup, wE_tup, wT_tup, wS_ret_tup, wO_lst, wE_lst, wT_lst, wS_ret_lst, wO_bin, wE_bin, wT_bin, wS_ret_bin, wO_cmp, wE_cmp, wT_cmp, wS_ret_cmp, wO_andE, wE_andE, wS_ret_andE, wO_orE, wE_orE, wS_ret_orE, wO_notE, wE_notE, wS_ret_notE, wO_ifE, wE_ifE, wT_ifE, wS_ret_ifE, wO_idx, wE_idx, wT_idx, wS_ret_idx, wO_sfrom, wE_sfrom, wT_sfrom, wS_ret_sfrom, wO_upto, wE_upto, wT_upto, wS_ret_upto, wO_cut, wE_cut, wT_cut, wS_ret_cut, wO_rev, wE_rev, wT_rev, wS_ret_rev, wO_call, wE_call, wT_call, wS_ret_call, wO_blt, wE_blt, wT_blt, wS_ret_blt, wO_pop, wE_pop, wT_pop, wS_ret_pop, wO_setLen, wE_setLen, wT_setLen, wS_ret_setLen, wO_isT, wE_isT, wT_isT, wS_ret_isT, wO_comp, wE_comp, wT_comp, wS_ret_comp, wO_nref, wE_nref, wT_nref, wS_ret_nref, wO_idxOf, wE_idxOf, wT_idxOf, wS_ret_idxOf, wT_var, wA_nil, wA_cons, wOs_nil, wOs_cons, wI_seq, wI_rng, wI_enm, wSs_nil, wSs_cons, wS_asg, wS_unp, wS_par, wS_setI, wS_app, wS_ex, wS_ifS, wS_whl, wS_forS, wS_retN, wS_pass, wS_brk, wS_cnt, wS_nvr, wS_rse, wS_tryE, wOp_some, wOp_none, wOq_some, wOq_none, wN_some, wN_none, wRt_some, wRt_none, wIf_true, wIf_false, wGd_true, wGd_false, varO, opO, retO, pv2, pv1, pvB, pvI, cutO, rvB, isOwnL, isAppL, popO, nrefO, isLO, rngO, enmO, setTO, setIO, appO2, Qs.seq_nx, Qs.seq_rt, Qs.seq_bk, Qs.seq_ct, Qs.seq_ex, Qs.fin_nx, Qs.fin_rt, Qs.fin_ex, entryE, deref, derefV, vw, derefs, op2, cmp_lt, cmp_le, cmp_gt, cmp_ge, cmp_isN, cmp_notN, cmp_eq_ii, cmp_ne_ii, cmp_eq_ni, cmp_ne_ni, cmp_eq_ss, cmp_ne_ss, cmp_in_t, cmp_in_l, cmp_nin_l, cmp_nin_t, okds_s, okds_t, okds_l, okds_i, okds_n, okdc_nil, okdc_cons, okdc_non, okdc_bl, okdc_int, okdc_str, cmp_eq_l0, cmp_ne_l0, cmp_eq_t0, cmp_ne_t0, sl1_t, sl1_l, isNonW, idx2, atI, ixN, blt1, truth, RV.w, slOf, toI, items, isLst, setT, setTs, vB, mulOk, rngOk_small, szOk_small, wHr_nil, wHr_cons, hrO, hAsg, hev, hevs, inE, offE, keepV_n0, keepV_nn, keepV_v, keepV_o]
      refine bases_w h5 h8 hR (by omega) (by omega) (by omega) fun b S3 hS3 hb => ?_
      have hbl : b.length ≤ 5 := by
        obtain ⟨r, hp⟩ := hb
        have := hp.length_eq
        simp at this; omega
      simp [wE_var, wO_var, wS_retV, wT_andE, wT_orE, wT_notE, wO_non, wE_non, wT_non, wS_ret_non, wO_bl, wE_bl, wT_bl, wS_ret_bl, wO_int, wE_int, wT_int, wS_ret_int, wO_str, wE_str, wT_str, wS_ret_str, wO_tup, wE_tup, wT_tup, wS_ret_tup, wO_lst, wE_lst, wT_lst, wS_ret_lst, wO_bin, wE_bin, wT_bin, wS_ret_bin, wO_cmp, wE_cmp, wT_cmp, wS_ret_cmp, wO_andE, wE_andE, wS_ret_andE, wO_orE, wE_orE, wS_ret_orE, wO_notE, wE_notE, wS_ret_notE, wO_ifE, wE_ifE, wT_ifE, wS_ret_ifE, wO_idx, wE_idx, wT_idx, wS_ret_idx, wO_sfrom, wE_sfrom, wT_sfrom, wS_ret_sfrom, wO_upto, wE_upto, wT_upto, wS_ret_upto, wO_cut, wE_cut, wT_cut, wS_ret_cut, wO_rev, wE_rev, wT_rev, wS_ret_rev, wO_call, wE_call, wT_call, wS_ret_call, wO_blt, wE_blt, wT_blt, wS_ret_blt, wO_pop, wE_pop, wT_pop, wS_ret_pop, wO_setLen, wE_setLen, wT_setLen, wS_ret_setLen, wO_isT, wE_isT, wT_isT, wS_ret_isT, wO_comp, wE_comp, wT_comp, wS_ret_comp, wO_nref, wE_nref, wT_nref, wS_ret_nref, wO_idxOf, wE_idxOf, wT_idxOf, wS_ret_idxOf, wT_var, wA_nil, wA_cons, wOs_nil, wOs_cons, wI_seq, wI_rng, wI_enm, wSs_nil, wSs_cons, wS_asg, wS_unp, wS_par, wS_setI, wS_app, wS_ex, wS_ifS, wS_whl, wS_forS, wS_retN, wS_pass, wS_brk, wS_cnt, wS_nvr, wS_rse, wS_tryE, wOp_some, wOp_none, wOq_some, wOq_none, wN_some, wN_none, wRt_some, wRt_none, wIf_true, wIf_false, wGd_true, wGd_false, varO, opO, retO, pv2, pv1, pvB, pvI, cutO, rvB, isOwnL, isAppL, popO, nrefO, isLO, rngO, enmO, setTO, setIO, appO2, Qs.seq_nx, Qs.seq_rt, Qs.seq_bk, Qs.seq_ct, Qs.seq_ex, Qs.fin_nx, Qs.fin_rt, Qs.fin_ex, entryE, deref, derefV, vw, derefs, op2, cmp_lt, cmp_le, cmp_gt, cmp_ge, cmp_isN, cmp_notN, cmp_eq_ii, cmp_ne_ii, cmp_eq_ni, cmp_ne_ni, cmp_eq_ss, cmp_ne_ss, cmp_in_t, cmp_in_l, cmp_nin_l, cmp_nin_t, okds_s, okds_t, okds_l, okds_i, okds_n, okdc_nil, okdc_cons, okdc_non, okdc_bl, okdc_int, okdc_str, cmp_eq_l0, cmp_ne_l0, cmp_eq_t0, cmp_ne_t0, sl1_t, sl1_l, isNonW, idx2, atI, ixN, blt1, truth, RV.w, slOf, toI, items, isLst, setT, setTs, vB, mulOk, rngOk_small, szOk_small, wHr_nil, wHr_cons, hrO, hAsg, hev, hevs, inE, offE, keepV_n0, keepV_nn, keepV_v, keepV_o]
      refine wIf_split (fun hc => ?_) (fun hc => ?_)
      · have hb0 : b ≠ [] := by intro e; subst e; simp at hc
        have hb1 : 0 < b.length := List.length_pos_iff.mpr hb0
        simp [wE_var, wO_var, wS_retV, wT_andE, wT_orE, wT_notE, wO_non, wE_non, wT_non, wS_ret_non, wO_bl, wE_bl, wT_bl, wS_ret_bl, wO_int, wE_int, wT_int, wS_ret_int, wO_str, wE_str, wT_str, wS_ret_str, wO_tup, wE_tup, wT_tup, wS_ret_tup, wO_lst, wE_lst, wT_lst, wS_ret_lst, wO_bin, wE_bin, wT_bin, wS_ret_bin, wO_cmp, wE_cmp, wT_cmp, wS_ret_cmp, wO_andE, wE_andE, wS_ret_andE, wO_orE, wE_orE, wS_ret_orE, wO_notE, wE_notE, wS_ret_notE, wO_ifE, wE_ifE, wT_ifE, wS_ret_ifE, wO_idx, wE_idx, wT_idx, wS_ret_idx, wO_sfrom, wE_sfrom, wT_sfrom, wS_ret_sfrom, wO_upto, wE_upto, wT_upto, wS_ret_upto, wO_cut, wE_cut, wT_cut, wS_ret_cut, wO_rev, wE_rev, wT_rev, wS_ret_rev, wO_call, wE_call, wT_call, wS_ret_call, wO_blt, wE_blt, wT_blt, wS_ret_blt, wO_pop, wE_pop, wT_pop, wS_ret_pop, wO_setLen, wE_setLen, wT_setLen, wS_ret_setLen, wO_isT, wE_isT, wT_isT, wS_ret_isT, wO_comp, wE_comp, wT_comp, wS_ret_comp, wO_nref, wE_nref, wT_nref, wS_ret_nref, wO_idxOf, wE_idxOf, wT_idxOf, wS_ret_idxOf, wT_var, wA_nil, wA_cons, wOs_nil, wOs_cons, wI_seq, wI_rng, wI_enm, wSs_nil, wSs_cons, wS_asg, wS_unp, wS_par, wS_setI, wS_app, wS_ex, wS_ifS, wS_whl, wS_forS, wS_retN, wS_pass, wS_brk, wS_cnt, wS_nvr, wS_rse, wS_tryE, wOp_some, wOp_none, wOq_some, wOq_none, wN_some, wN_none, wRt_some, wRt_none, wIf_true, wIf_false, wGd_true, wGd_false, varO, opO, retO, pv2, pv1, pvB, pvI, cutO, rvB, isOwnL, isAppL, popO, nrefO, isLO, rngO, enmO, setTO, setIO, appO2, Qs.seq_nx, Qs.seq_rt, Qs.seq_bk, Qs.seq_ct, Qs.seq_ex, Qs.fin_nx, Qs.fin_rt, Qs.fin_ex, entryE, deref, derefV, vw, derefs, op2, cmp_lt, cmp_le, cmp_gt, cmp_ge, cmp_isN, cmp_notN, cmp_eq_ii, cmp_ne_ii, cmp_eq_ni, cmp_ne_ni, cmp_eq_ss, cmp_ne_ss, cmp_in_t, cmp_in_l, cmp_nin_l, cmp_nin_t, okds_s, okds_t, okds_l, okds_i, okds_n, okdc_nil, okdc_cons, okdc_non, okdc_bl, okdc_int, okdc_str, cmp_eq_l0, cmp_ne_l0, cmp_eq_t0, cmp_ne_t0, sl1_t, sl1_l, isNonW, idx2, atI, ixN, blt1, truth, RV.w, slOf, toI, items, isLst, setT, setTs, vB, mulOk, rngOk_small, szOk_small, wHr_nil, wHr_cons, hrO, hAsg, hev, hevs, inE, offE, keepV_n0, keepV_nn, keepV_v, keepV_o]
        refine taken_w h5 hS3 (by omega) (by omega) fun v4 S4 hS4 _ _ => ?_
        simp [wE_var, wO_var, wS_retV, wT_andE, wT_orE, wT_notE, wO_non, wE_non, wT_non, wS_ret_non, wO_bl, wE_bl, wT_bl, wS_ret_bl, wO_int, wE_int, wT_int, wS_ret_int, wO_str, wE_str, wT_str, wS_ret_str, wO_tup, wE_tup, wT_tup, wS_ret_tup, wO_lst, wE_lst, wT_lst, wS_ret_lst, wO_bin, wE_bin, wT_bin, wS_ret_bin, wO_cmp, wE_cmp, wT_cmp, wS_ret_cmp, wO_andE, wE_andE, wS_ret_andE, wO_orE, wE_orE, wS_ret_orE, wO_notE, wE_notE, wS_ret_notE, wO_ifE, wE_ifE, wT_ifE, wS_ret_ifE, wO_idx, wE_idx, wT_idx, wS_ret_idx, wO_sfrom, wE_sfrom, wT_sfrom, wS_ret_sfrom, wO_upto, wE_upto, wT_upto, wS_ret_upto, wO_cut, wE_cut, wT_cut, wS_ret_cut, wO_rev, wE_rev, wT_rev, wS_ret_rev, wO_call, wE_call, wT_call, wS_ret_call, wO_blt, wE_blt, wT_blt, wS_ret_blt, wO_pop, wE_pop, wT_pop, wS_ret_pop, wO_setLen, wE_setLen, wT_setLen, wS_ret_setLen, wO_isT, wE_isT, wT_isT, wS_ret_isT, wO_comp, wE_comp, wT_comp, wS_ret_comp, wO_nref, wE_nref, wT_nref, wS_ret_nref, wO_idxOf, wE_idxOf, wT_idxOf, wS_ret_idxOf, wT_var, wA_nil, wA_cons, wOs_nil, wOs_cons, wI_seq, wI_rng, wI_enm, wSs_nil, wSs_cons, wS_asg, wS_unp, wS_par, wS_setI, wS_app, wS_ex, wS_ifS, wS_whl, wS_forS, wS_retN, wS_pass, wS_brk, wS_cnt, wS_nvr, wS_rse, wS_tryE, wOp_some, wOp_none, wOq_some, wOq_none, wN_some, wN_none, wRt_some, wRt_none, wIf_true, wIf_false, wGd_true, wGd_false, varO, opO, retO, pv2, pv1, pvB, pvI, cutO, rvB, isOwnL, isAppL, popO, nrefO, isLO, rngO, enmO, setTO, setIO, appO2, Qs.seq_nx, Qs.seq_rt, Qs.seq_bk, Qs.seq_ct, Qs.seq_ex, Qs.fin_nx, Qs.fin_rt, Qs.fin_ex, entryE, deref, derefV, vw, derefs, op2, cmp_lt, cmp_le, cmp_gt, cmp_ge, cmp_isN, cmp_notN, cmp_eq_ii, cmp_ne_ii, cmp_eq_ni, cmp_ne_ni, cmp_eq_ss, cmp_ne_ss, cmp_in_t, cmp_in_l, cmp_nin_l, cmp_nin_t, okds_s, okds_t, okds_l, okds_i, okds_n, okdc_nil, okdc_cons, okdc_non, okdc_bl, okdc_int, okdc_str, cmp_eq_l0, cmp_ne_l0, cmp_eq_t0, cmp_ne_t0, sl1_t, sl1_l, isNonW, idx2, atI, ixN, blt1, truth, RV.w, slOf, toI, items, isLst, setT, setTs, vB, mulOk, rngOk_small, szOk_small, wHr_nil, wHr_cons, hrO, hAsg, hev, hevs, inE, offE, keepV_n0, keepV_nn, keepV_v, keepV_o]
        refine wIf_split (fun hc => ?_) (fun hc => ?_)
        · simp [wE_var, wO_var, wS_retV, wT_andE, wT_orE, wT_notE, wO_non, wE_non, wT_non, wS_ret_non, wO_bl, wE_bl, wT_bl, wS_ret_bl, wO_int, wE_int, wT_int, wS_ret_int, wO_str, wE_str, wT_str, wS_ret_str, wO_tup, wE_tup, wT_tup, wS_ret_tup, wO_lst, wE_lst, wT_lst, wS_ret_lst, wO_bin, wE_bin, wT_bin, wS_ret_bin, wO_cmp, wE_cmp, wT_cmp, wS_ret_cmp, wO_andE, wE_andE, wS_ret_andE, wO_orE, wE_orE, wS_ret_orE, wO_notE, wE_notE, wS_ret_notE, wO_ifE, wE_ifE, wT_ifE, wS_ret_ifE, wO_idx, wE_idx, wT_idx, wS_ret_idx, wO_sfrom, wE_sfrom, wT_sfrom, wS_ret_sfrom, wO_upto, wE_upto, wT_upto, wS_ret_upto, wO_cut, wE_cut, wT_cut, wS_ret_cut, wO_rev, wE_rev, wT_rev, wS_ret_rev, wO_call, wE_call, wT_call, wS_ret_call, wO_blt, wE_blt, wT_blt, wS_ret_blt, wO_pop, wE_pop, wT_pop, wS_ret_pop, wO_setLen, wE_setLen, wT_setLen, wS_ret_setLen, wO_isT, wE_isT, wT_isT, wS_ret_isT, wO_comp, wE_comp, wT_comp, wS_ret_comp, wO_nref, wE_nref, wT_nref, wS_ret_nref, wO_idxOf, wE_idxOf, wT_idxOf, wS_ret_idxOf, wT_var, wA_nil, wA_cons, wOs_nil, wOs_cons, wI_seq, wI_rng, wI_enm, wSs_nil, wSs_cons, wS_asg, wS_unp, wS_par, wS_setI, wS_app, wS_ex, wS_ifS, wS_whl, wS_forS, wS_retN, wS_pass, wS_brk, wS_cnt, wS_nvr, wS_rse, wS_tryE, wOp_some, wOp_none, wOq_some, wOq_none, wN_some, wN_none, wRt_some, wRt_none, wIf_true, wIf_false, wGd_true, wGd_false, varO, opO, retO, pv2, pv1, pvB, pvI, cutO, rvB, isOwnL, isAppL, popO, nrefO, isLO, rngO, enmO, setTO, setIO, appO2, Qs.seq_nx, Qs.seq_rt, Qs.seq_bk, Qs.seq_ct, Qs.seq_ex, Qs.fin_nx, Qs.fin_rt, Qs.fin_ex, entryE, deref, derefV, vw, derefs, op2, cmp_lt, cmp_le, cmp_gt, cmp_ge, cmp_isN, cmp_notN, cmp_eq_ii, cmp_ne_ii, cmp_eq_ni, cmp_ne_ni, cmp_eq_ss, cmp_ne_ss, cmp_in_t, cmp_in_l, cmp_nin_l, cmp_nin_t, okds_s, okds_t, okds_l, okds_i, okds_n, okdc_nil, okdc_cons, okdc_non, okdc_bl, okdc_int, okdc_str, cmp_eq_l0, cmp_ne_l0, cmp_eq_t0, cmp_ne_t0, sl1_t, sl1_l, isNonW, idx2, atI, ixN, blt1, truth, RV.w, slOf, toI, items, isLst, setT, setTs, vB, mulOk, rngOk_small, szOk_small, wHr_nil, wHr_cons, hrO, hAsg, hev, hevs, inE, offE, keepV_n0, keepV_nn, keepV_v, keepV_o]
          refine taken_w h5 hS4 (by omega) (by omega) fun v5 S5 hS5 w0 w1 => ?_
          obtain ⟨m, rfl⟩ := Int.eq_ofNat_of_zero_le w0
          have hm : m ≤ b.length := by omega
          simp [wE_var, wO_var, wS_retV, wT_andE, wT_orE, wT_notE, wO_non, wE_non, wT_non, wS_ret_non, wO_bl, wE_bl, wT_bl, wS_ret_bl, wO_int, wE_int, wT_int, wS_ret_int, wO_str, wE_str, wT_str, wS_ret_str, wO_tup, wE_tup, wT_tup, wS_ret_tup, wO_lst, wE_lst, wT_lst, wS_ret_lst, wO_bin, wE_bin, wT_bin, wS_ret_bin, wO_cmp, wE_cmp, wT_cmp, wS_ret_cmp, wO_andE, wE_andE, wS_ret_andE, wO_orE, wE_orE, wS_ret_orE, wO_notE, wE_notE, wS_ret_notE, wO_ifE, wE_ifE, wT_ifE, wS_ret_ifE, wO_idx, wE_idx, wT_idx, wS_ret_idx, wO_sfrom, wE_sfrom, wT_sfrom, wS_ret_sfrom, wO_upto, wE_upto, wT_upto, wS_ret_upto, wO_cut, wE_cut, wT_cut, wS_ret_cut, wO_rev, wE_rev, wT_rev, wS_ret_rev, wO_call, wE_call, wT_call, wS_ret_call, wO_blt, wE_blt, wT_blt, wS_ret_blt, wO_pop, wE_pop, wT_pop, wS_ret_pop, wO_setLen, wE_setLen, wT_setLen, wS_ret_setLen, wO_isT, wE_isT, wT_isT, wS_ret_isT, wO_comp, wE_comp, wT_comp, wS_ret_comp, wO_nref, wE_nref, wT_nref, wS_ret_nref, wO_idxOf, wE_idxOf, wT_idxOf, wS_ret_idxOf, wT_var, wA_nil, wA_cons, wOs_nil, wOs_cons, wI_seq, wI_rng, wI_enm, wSs_nil, wSs_cons, wS_asg, wS_unp, wS_par, wS_setI, wS_app, wS_ex, wS_ifS, wS_whl, wS_forS, wS_retN, wS_pass, wS_brk, wS_cnt, wS_nvr, wS_rse, wS_tryE, wOp_some, wOp_none, wOq_some, wOq_none, wN_some, wN_none, wRt_some, wRt_none, wIf_true, wIf_false, wGd_true, wGd_false, varO, opO, retO, pv2, pv1, pvB, pvI, cutO, rvB, isOwnL, isAppL, popO, nrefO, isLO, rngO, enmO, setTO, setIO, appO2, Qs.seq_nx, Qs.seq_rt, Qs.seq_bk, Qs.seq_ct, Qs.seq_ex, Qs.fin_nx, Qs.fin_rt, Qs.fin_ex, entryE, deref, derefV, vw, derefs, op2, cmp_lt, cmp_le, cmp_gt, cmp_ge, cmp_isN, cmp_notN, cmp_eq_ii, cmp_ne_ii, cmp_eq_ni, cmp_ne_ni, cmp_eq_ss, cmp_ne_ss, cmp_in_t, cmp_in_l, cmp_nin_l, cmp_nin_t, okds_s, okds_t, okds_l, okds_i, okds_n, okdc_nil, okdc_cons, okdc_non, okdc_bl, okdc_int, okdc_str, cmp_eq_l0, cmp_ne_l0, cmp_eq_t0, cmp_ne_t0, sl1_t, sl1_l, isNonW, idx2, atI, ixN, blt1, truth, RV.w, slOf, toI, items, isLst, setT, setTs, vB, mulOk, rngOk_small, szOk_small, wHr_nil, wHr_cons, hrO, hAsg, hev, hevs, inE, offE, keepV_n0, keepV_nn, keepV_v, keepV_o]
          refine pick_w h5 h7 hS5 (by simpa using hb0) (by simp; omega) fun u S6 hS6 hu => ?_
          obtain ⟨a, ha, rfl⟩ := List.mem_map.mp hu
          have e1 : slc2 none (some (m : Int)) (tW b) = some (.v (tW (b.take m))) := by rw [slu_t (by simpa using hm), ← List.map_take]
          have e2 : slc2 (some (m : Int)) none (tW b) = some (.v (tW (b.drop m))) := by rw [slf_t (by simpa using hm), ← List.map_drop]
          have hsum : (b.take m).length + (b.drop m).length = b.length := by simp; omega
          generalize b.take m = b1 at e1 hsum
          generalize b.drop m = b2 at e2 hsum
          have z1 : szOk (b1.length + 1) = true := szOk_small (by omega)
          have z2 : szOk (b1.length + 1 + b2.length) = true := szOk_small (by omega)
          have z3 : szOk (b1.length + (b2.length + 1)) = true := szOk_small (by omega)
          simp [wE_var, wO_var, wS_retV, wT_andE, wT_orE, wT_notE, wO_non, wE_non, wT_non, wS_ret_non, wO_bl, wE_bl, wT_bl, wS_ret_bl, wO_int, wE_int, wT_int, wS_ret_int, wO_str, wE_str, wT_str, wS_ret_str, wO_tup, wE_tup, wT_tup, wS_ret_tup, wO_lst, wE_lst, wT_lst, wS_ret_lst, wO_bin, wE_bin, wT_bin, wS_ret_bin, wO_cmp, wE_cmp, wT_cmp, wS_ret_cmp, wO_andE, wE_andE, wS_ret_andE, wO_orE, wE_orE, wS_ret_orE, wO_notE, wE_notE, wS_ret_notE, wO_ifE, wE_ifE, wT_ifE, wS_ret_ifE, wO_idx, wE_idx, wT_idx, wS_ret_idx, wO_sfrom, wE_sfrom, wT_sfrom, wS_ret_sfrom, wO_upto, wE_upto, wT_upto, wS_ret_upto, wO_cut, wE_cut, wT_cut, wS_ret_cut, wO_rev, wE_rev, wT_rev, wS_ret_rev, wO_call, wE_call, wT_call, wS_ret_call, wO_blt, wE_blt, wT_blt, wS_ret_blt, wO_pop, wE_pop, wT_pop, wS_ret_pop, wO_setLen, wE_setLen, wT_setLen, wS_ret_setLen, wO_isT, wE_isT, wT_isT, wS_ret_isT, wO_comp, wE_comp, wT_comp, wS_ret_comp, wO_nref, wE_nref, wT_nref, wS_ret_nref, wO_idxOf, wE_idxOf, wT_idxOf, wS_ret_idxOf, wT_var, wA_nil, wA_cons, wOs_nil, wOs_cons, wI_seq, wI_rng, wI_enm, wSs_nil, wSs_cons, wS_asg, wS_unp, wS_par, wS_setI, wS_app, wS_ex, wS_ifS, wS_whl, wS_forS, wS_retN, wS_pass, wS_brk, wS_cnt, wS_nvr, wS_rse, wS_tryE, wOp_some, wOp_none, wOq_some, wOq_none, wN_some, wN_none, wRt_some, wRt_none, wIf_true, wIf_false, wGd_true, wGd_false, varO, opO, retO, pv2, pv1, pvB, pvI, cutO, rvB, isOwnL, isAppL, popO, nrefO, isLO, rngO, enmO, setTO, setIO, appO2, Qs.seq_nx, Qs.seq_rt, Qs.seq_bk, Qs.seq_ct, Qs.seq_ex, Qs.fin_nx, Qs.fin_rt, Qs.fin_ex, entryE, deref, derefV, vw, derefs, op2, cmp_lt, cmp_le, cmp_gt, cmp_ge, cmp_isN, cmp_notN, cmp_eq_ii, cmp_ne_ii, cmp_eq_ni, cmp_ne_ni, cmp_eq_ss, cmp_ne_ss, cmp_in_t, cmp_in_l, cmp_nin_l, cmp_nin_t, okds_s, okds_t, okds_l, okds_i, okds_n, okdc_nil, okdc_cons, okdc_non, okdc_bl, okdc_int, okdc_str, cmp_eq_l0, cmp_ne_l0, cmp_eq_t0, cmp_ne_t0, sl1_t, sl1_l, isNonW, idx2, atI, ixN, blt1, truth, RV.w, slOf, toI, items, isLst, setT, setTs, vB, mulOk, rngOk_small, szOk_small, wHr_nil, wHr_cons, hrO, hAsg, hev, hevs, inE, offE, keepV_n0, keepV_nn, keepV_v, keepV_o, e1, e2, z1, z2, z3, hz1]
          rw [show List.map tW lists ++ [W.tup (List.map W.str b1 ++ W.str a :: List.map W.str b2)] = (lists ++ [b1 ++ a :: b2]).map tW by simp]
          exact ⟨_, _, _, _, _, _, _, _, _, _, _, rfl, .inl rfl, hS6, by simp [hlen], hfin _ (by simp; omega)⟩
        · simp [wE_var, wO_var, wS_retV, wT_andE, wT_orE, wT_notE, wO_non, wE_non, wT_non, wS_ret_non, wO_bl, wE_bl, wT_bl, wS_ret_bl, wO_int, wE_int, wT_int, wS_ret_int, wO_str, wE_str, wT_str, wS_ret_str, wO_tup, wE_tup, wT_tup, wS_ret_tup, wO_lst, wE_lst, wT_lst, wS_ret_lst, wO_bin, wE_bin, wT_bin, wS_ret_bin, wO_cmp, wE_cmp, wT_cmp, wS_ret_cmp, wO_andE, wE_andE, wS_ret_andE, wO_orE, wE_orE, wS_ret_orE, wO_notE, wE_notE, wS_ret_notE, wO_ifE, wE_ifE, wT_ifE, wS_ret_ifE, wO_idx, wE_idx, wT_idx, wS_ret_idx, wO_sfrom, wE_sfrom, wT_sfrom, wS_ret_sfrom, wO_upto, wE_upto, wT_upto, wS_ret_upto, wO_cut, wE_cut, wT_cut, wS_ret_cut, wO_rev, wE_rev, wT_rev, wS_ret_rev, wO_call, wE_call, wT_call, wS_ret_call, wO_blt, wE_blt, wT_blt, wS_ret_blt, wO_pop, wE_pop, wT_pop, wS_ret_pop, wO_setLen, wE_setLen, wT_setLen, wS_ret_setLen, wO_isT, wE_isT, wT_isT, wS_ret_isT, wO_comp, wE_comp, wT_comp, wS_ret_comp, wO_nref, wE_nref, wT_nref, wS_ret_nref, wO_idxOf, wE_idxOf, wT_idxOf, wS_ret_idxOf, wT_var, wA_nil, wA_cons, wOs_nil, wOs_cons, wI_seq, wI_rng, wI_enm, wSs_nil, wSs_cons, wS_asg, wS_unp, wS_par, wS_setI, wS_app, wS_ex, wS_ifS, wS_whl, wS_forS, wS_retN, wS_pass, wS_brk, wS_cnt, wS_nvr, wS_rse, wS_tryE, wOp_some, wOp_none, wOq_some, wOq_none, wN_some, wN_none, wRt_some, wRt_none, wIf_true, wIf_false, wGd_true, wGd_false, varO, opO, retO, pv2, pv1, pvB, pvI, cutO, rvB, isOwnL, isAppL, popO, nrefO, isLO, rngO, enmO, setTO, setIO, appO2, Qs.seq_nx, Qs.seq_rt, Qs.seq_bk, Qs.seq_ct, Qs.seq_ex, Qs.fin_nx, Qs.fin_rt, Qs.fin_ex, entryE, deref, derefV, vw, derefs, op2, cmp_lt, cmp_le, cmp_gt, cmp_ge, cmp_isN, cmp_notN, cmp_eq_ii, cmp_ne_ii, cmp_eq_ni, cmp_ne_ni, cmp_eq_ss, cmp_ne_ss, cmp_in_t, cmp_in_l, cmp_nin_l, cmp_nin_t, okds_s, okds_t, okds_l, okds_i, okds_n, okdc_nil, okdc_cons, okdc_non, okdc_bl, okdc_int, okdc_str, cmp_eq_l0, cmp_ne_l0, cmp_eq_t0, cmp_ne_t0, sl1_t, sl1_l, isNonW, idx2, atI, ixN, blt1, truth, RV.w, slOf, toI, items, isLst, setT, setTs, vB, mulOk, rngOk_small, szOk_small, wHr_nil, wHr_cons, hrO, hAsg, hev, hevs, inE, offE, keepV_n0, keepV_nn, keepV_v, keepV_o, hz1]
          rw [show List.map tW lists ++ [W.tup (List.map W.str b)] = (lists ++ [b]).map tW by simp]
          exact ⟨_, _, _, _, _, _, _, _, _, _, _, rfl, .inl rfl, hS4, by simp [hlen], hfin b (by omega)⟩
      · simp [wE_var, wO_var, wS_retV, wT_andE, wT_orE, wT_notE, wO_non, wE_non, wT_non, wS_ret_non, wO_bl, wE_bl, wT_bl, wS_ret_bl, wO_int, wE_int, wT_int, wS_ret_int, wO_str, wE_str, wT_str, wS_ret_str, wO_tup, wE_tup, wT_tup, wS_ret_tup, wO_lst, wE_lst, wT_lst, wS_ret_lst, wO_bin, wE_bin, wT_bin, wS_ret_bin, wO_cmp, wE_cmp, wT_cmp, wS_ret_cmp, wO_andE, wE_andE, wS_ret_andE, wO_orE, wE_orE, wS_ret_orE, wO_notE, wE_notE, wS_ret_notE, wO_ifE, wE_ifE, wT_ifE, wS_ret_ifE, wO_idx, wE_idx, wT_idx, wS_ret_idx, wO_sfrom, wE_sfrom, wT_sfrom, wS_ret_sfrom, wO_upto, wE_upto, wT_upto, wS_ret_upto, wO_cut, wE_cut, wT_cut, wS_ret_cut, wO_rev, wE_rev, wT_rev, wS_ret_rev, wO_call, wE_call, wT_call, wS_ret_call, wO_blt, wE_blt, wT_blt, wS_ret_blt, wO_pop, wE_pop, wT_pop, wS_ret_pop, wO_setLen, wE_setLen, wT_setLen, wS_ret_setLen, wO_isT, wE_isT, wT_isT, wS_ret_isT, wO_comp, wE_comp, wT_comp, wS_ret_comp, wO_nref, wE_nref, wT_nref, wS_ret_nref, wO_idxOf, wE_idxOf, wT_idxOf, wS_ret_idxOf, wT_var, wA_nil, wA_cons, wOs_nil, wOs_cons, wI_seq, wI_rng, wI_enm, wSs_nil, wSs_cons, wS_asg, wS_unp, wS_par, wS_setI, wS_app, wS_ex, wS_ifS, wS_whl, wS_forS, wS_retN, wS_pass, wS_brk, wS_cnt, wS_nvr, wS_rse, wS_tryE, wOp_some, wOp_none, wOq_some, wOq_none, wN_some, wN_none, wRt_some, wRt_none, wIf_true, wIf_false, wGd_true, wGd_false, varO, opO, retO, pv2, pv1, pvB, pvI, cutO, rvB, isOwnL, isAppL, popO, nrefO, isLO, rngO, enmO, setTO, setIO, appO2, Qs.seq_nx, Qs.seq_rt, Qs.seq_bk, Qs.seq_ct, Qs.seq_ex, Qs.fin_nx, Qs.fin_rt, Qs.fin_ex, entryE, deref, derefV, vw, derefs, op2, cmp_lt, cmp_le, cmp_gt, cmp_ge, cmp_isN, cmp_notN, cmp_eq_ii, cmp_ne_ii, cmp_eq_ni, cmp_ne_ni, cmp_eq_ss, cmp_ne_ss, cmp_in_t, cmp_in_l, cmp_nin_l, cmp_nin_t, okds_s, okds_t, okds_l, okds_i, okds_n, okdc_nil, okdc_cons, okdc_non, okdc_bl, okdc_int, okdc_str, cmp_eq_l0, cmp_ne_l0, cmp_eq_t0, cmp_ne_t0, sl1_t, sl1_l, isNonW, idx2, atI, ixN, blt1, truth, RV.w, slOf, toI, items, isLst, setT, setTs, vB, mulOk, rngOk_small, szOk_small, wHr_nil, wHr_cons, hrO, hAsg, hev, hevs, inE, offE, keepV_n0, keepV_nn, keepV_v, keepV_o, hz1]
        rw [show List.map tW lists ++ [W.tup (List.map W.str b)] = (lists ++ [b]).map tW by simp]
        exact ⟨_, _, _, _, _, _, _, _, _, _, _, rfl, .inl rfl, hS3, by simp [hlen], hfin b (by omega)⟩
  · rintro st ⟨lists, S', sn, o2, o3, o4, o7, o8, o9, o10, o11, rfl, hsn, hR, hlen, hsz⟩
    rw [List.length_range] at hlen
    have hr2 : rngOk (lists.length : Int) = true := rngOk_small (by omega) (by omega)
    simp [wE_var, wO_var, wS_retV, wT_andE, wT_orE, wT_notE, wO_non, wE_non, wT_non, wS_ret_non, wO_bl, wE_bl, wT_bl, wS_ret_bl, wO_int, wE_int, wT_int, wS_ret_int, wO_str, wE_str, wT_str, wS_ret_str, wO_tup, wE_tup, wT_tup, wS_ret_tup, wO_lst, wE_lst, wT_lst, wS_ret_lst, wO_bin, wE_bin, wT_bin, wS_ret_bin, wO_cmp, wE_cmp, wT_cmp, wS_ret_cmp, wO_andE, wE_andE, wS_ret_andE, wO_orE, wE_orE, wS_ret_orE, wO_notE, wE_notE, wS_ret_notE, wO_ifE, wE_ifE, wT_ifE, wS_ret_ifE, wO_idx, wE_idx, wT_idx, wS_ret_idx, wO_sfrom, wE_sfrom, wT_sfrom, wS_ret_sfrom, wO_upto, wE_upto, wT_upto, wS_ret_upto, wO_cut, wE_cut, wT_cut, wS_ret_cut, wO_rev, wE_rev, wT_rev, wS_ret_rev, wO_call, wE_call, wT_call, wS_ret_call, wO_blt, wE_blt, wT_blt, wS_ret_blt, wO_pop, wE_pop, wT_pop, wS_ret_pop, wO_setLen, wE_setLen, wT_setLen, wS_ret_setLen, wO_isT, wE_isT, wT_isT, wS_ret_isT, wO_comp, wE_comp, wT_comp, wS_ret_comp, wO_nref, wE_nref, wT_nref, wS_ret_nref, wO_idxOf, wE_idxOf, wT_idxOf, wS_ret_idxOf, wT_var, wA_nil, wA_cons, wOs_nil, wOs_cons, wI_seq, wI_rng, wI_enm, wSs_nil, wSs_cons, wS_asg, wS_unp, wS_par, wS_setI, wS_app, wS_ex, wS_ifS, wS_whl, wS_forS, wS_retN, wS_pass, wS_brk, wS_cnt, wS_nvr, wS_rse, wS_tryE, wOp_some, wOp_none, wOq_some, wOq_none, wN_some, wN_none, wRt_some, wRt_none, wIf_true, wIf_false, wGd_true, wGd_false, varO, opO, retO, pv2, pv1, pvB, pvI, cutO, rvB, isOwnL, isAppL, popO, nrefO, isLO, rngO, enmO, setTO, setIO, appO2, Qs.seq_nx, Qs.seq_rt, Qs.seq_bk, Qs.seq_ct, Qs.seq_ex, Qs.fin_nx, Qs.fin_rt, Qs.fin_ex, entryE, deref, derefV, vw, derefs, op2, cmp_lt, cmp_le, cmp_gt, cmp_ge, cmp_isN, cmp_notN, cmp_eq_ii, cmp_ne_ii, cmp_eq_ni, cmp_ne_ni, cmp_eq_ss, cmp_ne_ss, cmp_in_t, cmp_in_l, cmp_nin_l, cmp_nin_t, okds_s, okds_t, okds_l, okds_i, okds_n, okdc_nil, okdc_cons, okdc_non, okdc_bl, okdc_int, okdc_str, cmp_eq_l0, cmp_ne_l0, cmp_eq_t0, cmp_ne_t0, sl1_t, sl1_l, isNonW, idx2, atI, ixN, blt1, truth, RV.w, slOf, toI, items, isLst, setT, setTs, vB, mulOk, rngOk_small, szOk_small, wHr_nil, wHr_cons, hrO, hAsg, hev, hevs, inE, offE, keepV_n0, keepV_nn, keepV_v, keepV_o, hr2]
    refine wCmp_map (f := fun k : Nat => W.int k) (all := List.range lists.length) (fun k => match lists[k]? with
      | some r => if dup r = true then some (.int (k : Nat)) else none
      | none => none) (by simp) (fun y hy => ?_) ?_
    · have hy : y < lists.length := List.mem_range.mp hy
      have hz := slen_s (xs := lists[y]) (by have := hsz _ (List.getElem_mem hy); omega)
      simp [wE_var, wO_var, wS_retV, wT_andE, wT_orE, wT_notE, wO_non, wE_non, wT_non, wS_ret_non, wO_bl, wE_bl, wT_bl, wS_ret_bl, wO_int, wE_int, wT_int, wS_ret_int, wO_str, wE_str, wT_str, wS_ret_str, wO_tup, wE_tup, wT_tup, wS_ret_tup, wO_lst, wE_lst, wT_lst, wS_ret_lst, wO_bin, wE_bin, wT_bin, wS_ret_bin, wO_cmp, wE_cmp, wT_cmp, wS_ret_cmp, wO_andE, wE_andE, wS_ret_andE, wO_orE, wE_orE, wS_ret_orE, wO_notE, wE_notE, wS_ret_notE, wO_ifE, wE_ifE, wT_ifE, wS_ret_ifE, wO_idx, wE_idx, wT_idx, wS_ret_idx, wO_sfrom, wE_sfrom, wT_sfrom, wS_ret_sfrom, wO_upto, wE_upto, wT_upto, wS_ret_upto, wO_cut, wE_cut, wT_cut, wS_ret_cut, wO_rev, wE_rev, wT_rev, wS_ret_rev, wO_call, wE_call, wT_call, wS_ret_call, wO_blt, wE_blt, wT_blt, wS_ret_blt, wO_pop, wE_pop, wT_pop, wS_ret_pop, wO_setLen, wE_setLen, wT_setLen, wS_ret_setLen, wO_isT, wE_isT, wT_isT, wS_ret_isT, wO_comp, wE_comp, wT_comp, wS_ret_comp, wO_nref, wE_nref, wT_nref, wS_ret_nref, wO_idxOf, wE_idxOf, wT_idxOf, wS_ret_idxOf, wT_var, wA_nil, wA_cons, wOs_nil, wOs_cons, wI_seq, wI_rng, wI_enm, wSs_nil, wSs_cons, wS_asg, wS_unp, wS_par, wS_setI, wS_app, wS_ex, wS_ifS, wS_whl, wS_forS, wS_retN, wS_pass, wS_brk, wS_cnt, wS_nvr, wS_rse, wS_tryE, wOp_some, wOp_none, wOq_some, wOq_none, wN_some, wN_none, wRt_some, wRt_none, wIf_true, wIf_false, wGd_true, wGd_false, varO, opO, retO, pv2, pv1, pvB, pvI, cutO, rvB, isOwnL, isAppL, popO, nrefO, isLO, rngO, enmO, setTO, setIO, appO2, Qs.seq_nx, Qs.seq_rt, Qs.seq_bk, Qs.seq_ct, Qs.seq_ex, Qs.fin_nx, Qs.fin_rt, Qs.fin_ex, entryE, deref, derefV, vw, derefs, op2, cmp_lt, cmp_le, cmp_gt, cmp_ge, cmp_isN, cmp_notN, cmp_eq_ii, cmp_ne_ii, cmp_eq_ni, cmp_ne_ni, cmp_eq_ss, cmp_ne_ss, cmp_in_t, cmp_in_l, cmp_nin_l, cmp_nin_t, okds_s, okds_t, okds_l, okds_i, okds_n, okdc_nil, okdc_cons, okdc_non, okdc_bl, okdc_int, okdc_str, cmp_eq_l0, cmp_ne_l0, cmp_eq_t0, cmp_ne_t0, sl1_t, sl1_l, isNonW, idx2, atI, ixN, blt1, truth, RV.w, slOf, toI, items, isLst, setT, setTs, vB, mulOk, rngOk_small, szOk_small, wHr_nil, wHr_cons, hrO, hAsg, hev, hevs, inE, offE, keepV_n0, keepV_nn, keepV_v, keepV_o, hy, hz]
      refine wIf_split (fun hc => ?_) (fun hc => ?_)
      · have hd : dup lists[y] = true := hc
        simp [wE_var, wO_var, wS_retV, wT_andE, wT_orE, wT_notE, wO_non, wE_non, wT_non, wS_ret_non, wO_bl, wE_bl, wT_bl, wS_ret_bl, wO_int, wE_int, wT_int, wS_ret_int, wO_str, wE_str, wT_str, wS_ret_str, wO_tup, wE_tup, wT_tup, wS_ret_tup, wO_lst, wE_lst, wT_lst, wS_ret_lst, wO_bin, wE_bin, wT_bin, wS_ret_bin, wO_cmp, wE_cmp, wT_cmp, wS_ret_cmp, wO_andE, wE_andE, wS_ret_andE, wO_orE, wE_orE, wS_ret_orE, wO_notE, wE_notE, wS_ret_notE, wO_ifE, wE_ifE, wT_ifE, wS_ret_ifE, wO_idx, wE_idx, wT_idx, wS_ret_idx, wO_sfrom, wE_sfrom, wT_sfrom, wS_ret_sfrom, wO_upto, wE_upto, wT_upto, wS_ret_upto, wO_cut, wE_cut, wT_cut, wS_ret_cut, wO_rev, wE_rev, wT_rev, wS_ret_rev, wO_call, wE_call, wT_call, wS_ret_call, wO_blt, wE_blt, wT_blt, wS_ret_blt, wO_pop, wE_pop, wT_pop, wS_ret_pop, wO_setLen, wE_setLen, wT_setLen, wS_ret_setLen, wO_isT, wE_isT, wT_isT, wS_ret_isT, wO_comp, wE_comp, wT_comp, wS_ret_comp, wO_nref, wE_nref, wT_nref, wS_ret_nref, wO_idxOf, wE_idxOf, wT_idxOf, wS_ret_idxOf, wT_var, wA_nil, wA_cons, wOs_nil, wOs_cons, wI_seq, wI_rng, wI_enm, wSs_nil, wSs_cons, wS_asg, wS_unp, wS_par, wS_setI, wS_app, wS_ex, wS_ifS, wS_whl, wS_forS, wS_retN, wS_pass, wS_brk, wS_cnt, wS_nvr, wS_rse, wS_tryE, wOp_some, wOp_none, wOq_some, wOq_none, wN_some, wN_none, wRt_some, wRt_none, wIf_true, wIf_false, wGd_true, wGd_false, varO, opO, retO, pv2, pv1, pvB, pvI, cutO, rvB, isOwnL, isAppL, popO, nrefO, isLO, rngO, enmO, setTO, setIO, appO2, Qs.seq_nx, Qs.seq_rt, Qs.seq_bk, Qs.seq_ct, Qs.seq_ex, Qs.fin_nx, Qs.fin_rt, Qs.fin_ex, entryE, deref, derefV, vw, derefs, op2, cmp_lt, cmp_le, cmp_gt, cmp_ge, cmp_isN, cmp_notN, cmp_eq_ii, cmp_ne_ii, cmp_eq_ni, cmp_ne_ni, cmp_eq_ss, cmp_ne_ss, cmp_in_t, cmp_in_l, cmp_nin_l, cmp_nin_t, okds_s, okds_t, okds_l, okds_i, okds_n, okdc_nil, okdc_cons, okdc_non, okdc_bl, okdc_int, okdc_str, cmp_eq_l0, cmp_ne_l0, cmp_eq_t0, cmp_ne_t0, sl1_t, sl1_l, isNonW, idx2, atI, ixN, blt1, truth, RV.w, slOf, toI, items, isLst, setT, setTs, vB, mulOk, rngOk_small, szOk_small, wHr_nil, wHr_cons, hrO, hAsg, hev, hevs, inE, offE, keepV_n0, keepV_nn, keepV_v, keepV_o, hy, hd]
      · have hd : dup lists[y] = false := hc
        simp [wE_var, wO_var, wS_retV, wT_andE, wT_orE, wT_notE, wO_non, wE_non, wT_non, wS_ret_non, wO_bl, wE_bl, wT_bl, wS_ret_bl, wO_int, wE_int, wT_int, wS_ret_int, wO_str, wE_str, wT_str, wS_ret_str, wO_tup, wE_tup, wT_tup, wS_ret_tup, wO_lst, wE_lst, wT_lst, wS_ret_lst, wO_bin, wE_bin, wT_bin, wS_ret_bin, wO_cmp, wE_cmp, wT_cmp, wS_ret_cmp, wO_andE, wE_andE, wS_ret_andE, wO_orE, wE_orE, wS_ret_orE, wO_notE, wE_notE, wS_ret_notE, wO_ifE, wE_ifE, wT_ifE, wS_ret_ifE, wO_idx, wE_idx, wT_idx, wS_ret_idx, wO_sfrom, wE_sfrom, wT_sfrom, wS_ret_sfrom, wO_upto, wE_upto, wT_upto, wS_ret_upto, wO_cut, wE_cut, wT_cut, wS_ret_cut, wO_rev, wE_rev, wT_rev, wS_ret_rev, wO_call, wE_call, wT_call, wS_ret_call, wO_blt, wE_blt, wT_blt, wS_ret_blt, wO_pop, wE_pop, wT_pop, wS_ret_pop, wO_setLen, wE_setLen, wT_setLen, wS_ret_setLen, wO_isT, wE_isT, wT_isT, wS_ret_isT, wO_comp, wE_comp, wT_comp, wS_ret_comp, wO_nref, wE_nref, wT_nref, wS_ret_nref, wO_idxOf, wE_idxOf, wT_idxOf, wS_ret_idxOf, wT_var, wA_nil, wA_cons, wOs_nil, wOs_cons, wI_seq, wI_rng, wI_enm, wSs_nil, wSs_cons, wS_asg, wS_unp, wS_par, wS_setI, wS_app, wS_ex, wS_ifS, wS_whl, wS_forS, wS_retN, wS_pass, wS_brk, wS_cnt, wS_nvr, wS_rse, wS_tryE, wOp_some, wOp_none, wOq_some, wOq_none, wN_some, wN_none, wRt_some, wRt_none, wIf_true, wIf_false, wGd_true, wGd_false, varO, opO, retO, pv2, pv1, pvB, pvI, cutO, rvB, isOwnL, isAppL, popO, nrefO, isLO, rngO, enmO, setTO, setIO, appO2, Qs.seq_nx, Qs.seq_rt, Qs.seq_bk, Qs.seq_ct, Qs.seq_ex, Qs.fin_nx, Qs.fin_rt, Qs.fin_ex, entryE, deref, derefV, vw, derefs, op2, cmp_lt, cmp_le, cmp_gt, cmp_ge, cmp_isN, cmp_notN, cmp_eq_ii, cmp_ne_ii, cmp_eq_ni, cmp_ne_ni, cmp_eq_ss, cmp_ne_ss, cmp_in_t, cmp_in_l, cmp_nin_l, cmp_nin_t, okds_s, okds_t, okds_l, okds_i, okds_n, okdc_nil, okdc_cons, okdc_non, okdc_bl, okdc_int, okdc_str, cmp_eq_l0, cmp_ne_l0, cmp_eq_t0, cmp_ne_t0, sl1_t, sl1_l, isNonW, idx2, atI, ixN, blt1, truth, RV.w, slOf, toI, items, isLst, setT, setTs, vB, mulOk, rngOk_small, szOk_small, wHr_nil, wHr_cons, hrO, hAsg, hev, hevs, inE, offE, keepV_n0, keepV_nn, keepV_v, keepV_o, hy, hd]
    · rw [wr_map]
      simp [wE_var, wO_var, wS_retV, wT_andE, wT_orE, wT_notE, wO_non, wE_non, wT_non, wS_ret_non, wO_bl, wE_bl, wT_bl, wS_ret_bl, wO_int, wE_int, wT_int, wS_ret_int, wO_str, wE_str, wT_str, wS_ret_str, wO_tup, wE_tup, wT_tup, wS_ret_tup, wO_lst, wE_lst, wT_lst, wS_ret_lst, wO_bin, wE_bin, wT_bin, wS_ret_bin, wO_cmp, wE_cmp, wT_cmp, wS_ret_cmp, wO_andE, wE_andE, wS_ret_andE, wO_orE, wE_orE, wS_ret_orE, wO_notE, wE_notE, wS_ret_notE, wO_ifE, wE_ifE, wT_ifE, wS_ret_ifE, wO_idx, wE_idx, wT_idx, wS_ret_idx, wO_sfrom, wE_sfrom, wT_sfrom, wS_ret_sfrom, wO_upto, wE_upto, wT_upto, wS_ret_upto, wO_cut, wE_cut, wT_cut, wS_ret_cut, wO_rev, wE_rev, wT_rev, wS_ret_rev, wO_call, wE_call, wT_call, wS_ret_call, wO_blt, wE_blt, wT_blt, wS_ret_blt, wO_pop, wE_pop, wT_pop, wS_ret_pop, wO_setLen, wE_setLen, wT_setLen, wS_ret_setLen, wO_isT, wE_isT, wT_isT, wS_ret_isT, wO_comp, wE_comp, wT_comp, wS_ret_comp, wO_nref, wE_nref, wT_nref, wS_ret_nref, wO_idxOf, wE_idxOf, wT_idxOf, wS_ret_idxOf, wT_var, wA_nil, wA_cons, wOs_nil, wOs_cons, wI_seq, wI_rng, wI_enm, wSs_nil, wSs_cons, wS_asg, wS_unp, wS_par, wS_setI, wS_app, wS_ex, wS_ifS, wS_whl, wS_forS, wS_retN, wS_pass, wS_brk, wS_cnt, wS_nvr, wS_rse, wS_tryE, wOp_some, wOp_none, wOq_some, wOq_none, wN_some, wN_none, wRt_some, wRt_none, wIf_true, wIf_false, wGd_true, wGd_false, varO, opO, retO, pv2, pv1, pvB, pvI, cutO, rvB, isOwnL, isAppL, popO, nrefO, isLO, rngO, enmO, setTO, setIO, appO2, Qs.seq_nx, Qs.seq_rt, Qs.seq_bk, Qs.seq_ct, Qs.seq_ex, Qs.fin_nx, Qs.fin_rt, Qs.fin_ex, entryE, deref, derefV, vw, derefs, op2, cmp_lt, cmp_le, cmp_gt, cmp_ge, cmp_isN, cmp_notN, cmp_eq_ii, cmp_ne_ii, cmp_eq_ni, cmp_ne_ni, cmp_eq_ss, cmp_ne_ss, cmp_in_t, cmp_in_l, cmp_nin_l, cmp_nin_t, okds_s, okds_t, okds_l, okds_i, okds_n, okdc_nil, okdc_cons, okdc_non, okdc_bl, okdc_int, okdc_str, cmp_eq_l0, cmp_ne_l0, cmp_eq_t0, cmp_ne_t0, sl1_t, sl1_l, isNonW, idx2, atI, ixN, blt1, truth, RV.w, slOf, toI, items, isLst, setT, setTs, vB, mulOk, rngOk_small, szOk_small, wHr_nil, wHr_cons, hrO, hAsg, hev, hevs, inE, offE, keepV_n0, keepV_nn, keepV_v, keepV_o]
      have hts : tot lists < 100000 := by
        have : ∀ l : List (List Str), (∀ r ∈ l, r.length ≤ 6) → tot l ≤ 6 * l.length := by
          intro l
          induction l with
          | nil => intro _; exact Nat.le_refl _
          | cons r l ih =>
            intro h
            have h1 := ih fun r hr => h r (List.mem_cons_of_mem _ hr)
            have h2 := h r List.mem_cons_self
            simp only [tot, List.map_cons, List.sum_cons, List.length_cons] at h1 ⊢
            omega
        have := this lists hsz
        omega
      refine merge_w h0 h2 h3 h6 (by omega) hts (fun r hr => by have := hsz r hr; omega) (fun hd out _ => ?_) (fun hd _ l => ?_) (fun pre r post e hpre hr => ?_)
      · simp [wE_var, wO_var, wS_retV, wT_andE, wT_orE, wT_notE, wO_non, wE_non, wT_non, wS_ret_non, wO_bl, wE_bl, wT_bl, wS_ret_bl, wO_int, wE_int, wT_int, wS_ret_int, wO_str, wE_str, wT_str, wS_ret_str, wO_tup, wE_tup, wT_tup, wS_ret_tup, wO_lst, wE_lst, wT_lst, wS_ret_lst, wO_bin, wE_bin, wT_bin, wS_ret_bin, wO_cmp, wE_cmp, wT_cmp, wS_ret_cmp, wO_andE, wE_andE, wS_ret_andE, wO_orE, wE_orE, wS_ret_orE, wO_notE, wE_notE, wS_ret_notE, wO_ifE, wE_ifE, wT_ifE, wS_ret_ifE, wO_idx, wE_idx, wT_idx, wS_ret_idx, wO_sfrom, wE_sfrom, wT_sfrom, wS_ret_sfrom, wO_upto, wE_upto, wT_upto, wS_ret_upto, wO_cut, wE_cut, wT_cut, wS_ret_cut, wO_rev, wE_rev, wT_rev, wS_ret_rev, wO_call, wE_call, wT_call, wS_ret_call, wO_blt, wE_blt, wT_blt, wS_ret_blt, wO_pop, wE_pop, wT_pop, wS_ret_pop, wO_setLen, wE_setLen, wT_setLen, wS_ret_setLen, wO_isT, wE_isT, wT_isT, wS_ret_isT, wO_comp, wE_comp, wT_comp, wS_ret_comp, wO_nref, wE_nref, wT_nref, wS_ret_nref, wO_idxOf, wE_idxOf, wT_idxOf, wS_ret_idxOf, wT_var, wA_nil, wA_cons, wOs_nil, wOs_cons, wI_seq, wI_rng, wI_enm, wSs_nil, wSs_cons, wS_asg, wS_unp, wS_par, wS_setI, wS_app, wS_ex, wS_ifS, wS_whl, wS_forS, wS_retN, wS_pass, wS_brk, wS_cnt, wS_nvr, wS_rse, wS_tryE, wOp_some, wOp_none, wOq_some, wOq_none, wN_some, wN_none, wRt_some, wRt_none, wIf_true, wIf_false, wGd_true, wGd_false, varO, opO, retO, pv2, pv1, pvB, pvI, cutO, rvB, isOwnL, isAppL, popO, nrefO, isLO, rngO, enmO, setTO, setIO, appO2, Qs.seq_nx, Qs.seq_rt, Qs.seq_bk, Qs.seq_ct, Qs.seq_ex, Qs.fin_nx, Qs.fin_rt, Qs.fin_ex, entryE, deref, derefV, vw, derefs, op2, cmp_lt, cmp_le, cmp_gt, cmp_ge, cmp_isN, cmp_notN, cmp_eq_ii, cmp_ne_ii, cmp_eq_ni, cmp_ne_ni, cmp_eq_ss, cmp_ne_ss, cmp_in_t, cmp_in_l, cmp_nin_l, cmp_nin_t, okds_s, okds_t, okds_l, okds_i, okds_n, okdc_nil, okdc_cons, okdc_non, okdc_bl, okdc_int, okdc_str, cmp_eq_l0, cmp_ne_l0, cmp_eq_t0, cmp_ne_t0, sl1_t, sl1_l, isNonW, idx2, atI, ixN, blt1, truth, RV.w, slOf, toI, items, isLst, setT, setTs, vB, mulOk, rngOk_small, szOk_small, wHr_nil, wHr_cons, hrO, hAsg, hev, hevs, inE, offE, keepV_n0, keepV_nn, keepV_v, keepV_o, wr_nil hd]
      · simp [wE_var, wO_var, wS_retV, wT_andE, wT_orE, wT_notE, wO_non, wE_non, wT_non, wS_ret_non, wO_bl, wE_bl, wT_bl, wS_ret_bl, wO_int, wE_int, wT_int, wS_ret_int, wO_str, wE_str, wT_str, wS_ret_str, wO_tup, wE_tup, wT_tup, wS_ret_tup, wO_lst, wE_lst, wT_lst, wS_ret_lst, wO_bin, wE_bin, wT_bin, wS_ret_bin, wO_cmp, wE_cmp, wT_cmp, wS_ret_cmp, wO_andE, wE_andE, wS_ret_andE, wO_orE, wE_orE, wS_ret_orE, wO_notE, wE_notE, wS_ret_notE, wO_ifE, wE_ifE, wT_ifE, wS_ret_ifE, wO_idx, wE_idx, wT_idx, wS_ret_idx, wO_sfrom, wE_sfrom, wT_sfrom, wS_ret_sfrom, wO_upto, wE_upto, wT_upto, wS_ret_upto, wO_cut, wE_cut, wT_cut, wS_ret_cut, wO_rev, wE_rev, wT_rev, wS_ret_rev, wO_call, wE_call, wT_call, wS_ret_call, wO_blt, wE_blt, wT_blt, wS_ret_blt, wO_pop, wE_pop, wT_pop, wS_ret_pop, wO_setLen, wE_setLen, wT_setLen, wS_ret_setLen, wO_isT, wE_isT, wT_isT, wS_ret_isT, wO_comp, wE_comp, wT_comp, wS_ret_comp, wO_nref, wE_nref, wT_nref, wS_ret_nref, wO_idxOf, wE_idxOf, wT_idxOf, wS_ret_idxOf, wT_var, wA_nil, wA_cons, wOs_nil, wOs_cons, wI_seq, wI_rng, wI_enm, wSs_nil, wSs_cons, wS_asg, wS_unp, wS_par, wS_setI, wS_app, wS_ex, wS_ifS, wS_whl, wS_forS, wS_retN, wS_pass, wS_brk, wS_cnt, wS_nvr, wS_rse, wS_tryE, wOp_some, wOp_none, wOq_some, wOq_none, wN_some, wN_none, wRt_some, wRt_none, wIf_true, wIf_false, wGd_true, wGd_false, varO, opO, retO, pv2, pv1, pvB, pvI, cutO, rvB, isOwnL, isAppL, popO, nrefO, isLO, rngO, enmO, setTO, setIO, appO2, Qs.seq_nx, Qs.seq_rt, Qs.seq_bk, Qs.seq_ct, Qs.seq_ex, Qs.fin_nx, Qs.fin_rt, Qs.fin_ex, entryE, deref, derefV, vw, derefs, op2, cmp_lt, cmp_le, cmp_gt, cmp_ge, cmp_isN, cmp_notN, cmp_eq_ii, cmp_ne_ii, cmp_eq_ni, cmp_ne_ni, cmp_eq_ss, cmp_ne_ss, cmp_in_t, cmp_in_l, cmp_nin_l, cmp_nin_t, okds_s, okds_t, okds_l, okds_i, okds_n, okdc_nil, okdc_cons, okdc_non, okdc_bl, okdc_int, okdc_str, cmp_eq_l0, cmp_ne_l0, cmp_eq_t0, cmp_ne_t0, sl1_t, sl1_l, isNonW, idx2, atI, ixN, blt1, truth, RV.w, slOf, toI, items, isLst, setT, setTs, vB, mulOk, rngOk_small, szOk_small, wHr_nil, wHr_cons, hrO, hAsg, hev, hevs, inE, offE, keepV_n0, keepV_nn, keepV_v, keepV_o, wr_nil hd]
      · subst e
        obtain ⟨t, et⟩ := wr_cons (post := post) hpre hr
        simp [wE_var, wO_var, wS_retV, wT_andE, wT_orE, wT_notE, wO_non, wE_non, wT_non, wS_ret_non, wO_bl, wE_bl, wT_bl, wS_ret_bl, wO_int, wE_int, wT_int, wS_ret_int, wO_str, wE_str, wT_str, wS_ret_str, wO_tup, wE_tup, wT_tup, wS_ret_tup, wO_lst, wE_lst, wT_lst, wS_ret_lst, wO_bin, wE_bin, wT_bin, wS_ret_bin, wO_cmp, wE_cmp, wT_cmp, wS_ret_cmp, wO_andE, wE_andE, wS_ret_andE, wO_orE, wE_orE, wS_ret_orE, wO_notE, wE_notE, wS_ret_notE, wO_ifE, wE_ifE, wT_ifE, wS_ret_ifE, wO_idx, wE_idx, wT_idx, wS_ret_idx, wO_sfrom, wE_sfrom, wT_sfrom, wS_ret_sfrom, wO_upto, wE_upto, wT_upto, wS_ret_upto, wO_cut, wE_cut, wT_cut, wS_ret_cut, wO_rev, wE_rev, wT_rev, wS_ret_rev, wO_call, wE_call, wT_call, wS_ret_call, wO_blt, wE_blt, wT_blt, wS_ret_blt, wO_pop, wE_pop, wT_pop, wS_ret_pop, wO_setLen, wE_setLen, wT_setLen, wS_ret_setLen, wO_isT, wE_isT, wT_isT, wS_ret_isT, wO_comp, wE_comp, wT_comp, wS_ret_comp, wO_nref, wE_nref, wT_nref, wS_ret_nref, wO_idxOf, wE_idxOf, wT_idxOf, wS_ret_idxOf, wT_var, wA_nil, wA_cons, wOs_nil, wOs_cons, wI_seq, wI_rng, wI_enm, wSs_nil, wSs_cons, wS_asg, wS_unp, wS_par, wS_setI, wS_app, wS_ex, wS_ifS, wS_whl, wS_forS, wS_retN, wS_pass, wS_brk, wS_cnt, wS_nvr, wS_rse, wS_tryE, wOp_some, wOp_none, wOq_some, wOq_none, wN_some, wN_none, wRt_some, wRt_none, wIf_true, wIf_false, wGd_true, wGd_false, varO, opO, retO, pv2, pv1, pvB, pvI, cutO, rvB, isOwnL, isAppL, popO, nrefO, isLO, rngO, enmO, setTO, setIO, appO2, Qs.seq_nx, Qs.seq_rt, Qs.seq_bk, Qs.seq_ct, Qs.seq_ex, Qs.fin_nx, Qs.fin_rt, Qs.fin_ex, entryE, deref, derefV, vw, derefs, op2, cmp_lt, cmp_le, cmp_gt, cmp_ge, cmp_isN, cmp_notN, cmp_eq_ii, cmp_ne_ii, cmp_eq_ni, cmp_ne_ni, cmp_eq_ss, cmp_ne_ss, cmp_in_t, cmp_in_l, cmp_nin_l, cmp_nin_t, okds_s, okds_t, okds_l, okds_i, okds_n, okdc_nil, okdc_cons, okdc_non, okdc_bl, okdc_int, okdc_str, cmp_eq_l0, cmp_ne_l0, cmp_eq_t0, cmp_ne_t0, sl1_t, sl1_l, isNonW, idx2, atI, ixN, blt1, truth, RV.w, slOf, toI, items, isLst, setT, setTs, vB, mulOk, rngOk_small, szOk_small, wHr_nil, wHr_cons, hrO, hAsg, hev, hevs, inE, offE, keepV_n0, keepV_nn, keepV_v, keepV_o, et]
end
end LB

set_option Elab.async false
set_option linter.all false
set_option maxRecDepth 100000
set_option maxHeartbeats 0
/-! the defs of k03 -/
namespace K03
open PySem L2 LL Fn
abbrev R : PySem.W.OpenRow := PySem.W.OpenLaw.row PySem.Challenge.rw_livelookup_k03_lists_rejected
def top (i : Nat) : Stmt := PySem.Challenge.pw_livelookup_k03_lists_rejected.main.body.getD i (.Pass ⟨0, 0, 0, 0⟩)
/-- blocking_list -/
def d_blocking_list : DefI := ⟨0, ("blocking_list", none), "blocking_list", "blocking_list", ["lists", "name"], ["lists", "name", "row"], top 5, f_blocking_list⟩
/-- ring_of -/
def d_ring_of : DefI := ⟨2, ("ring_of", none), "ring_of", "ring_of", ["lists"], ["lists", "chain", "name"], top 6, f_ring_of⟩
/-- merge_for -/
def d_merge_for : DefI := ⟨3, ("merge_for", none), "merge_for", "merge_for", ["name", "lists"], ["name", "lists", "found", "rest", "free", "row"], top 7, f_merge_for⟩
/-- merge -/
def d_merge : DefI := ⟨6, ("merge", none), "merge", "merge", ["lists"], ["lists", "index", "row"], top 8, f_merge⟩
/-- _law_taken -/
def d__law_taken : DefI := ⟨5, ("_law_taken", none), "_law_taken", "_law_taken", ["_law_row", "_law_many"], ["_law_row", "_law_many", "_law_cell", "_law_found"], top 10, f__law_taken⟩
/-- _law_pick -/
def d__law_pick : DefI := ⟨7, ("_law_pick", none), "_law_pick", "_law_pick", ["_law_row", "_law_some"], ["_law_row", "_law_some"], top 11, f__law_pick⟩
/-- _law_words -/
def d__law_words : DefI := ⟨9, ("_law_words", none), "_law_words", "_law_words", ["_law_row"], ["_law_row", "_law_words_here", "_law_found", "_law_k"], top 12, f__law_words⟩
/-- _law_some_bases -/
def d__law_some_bases : DefI := ⟨8, ("_law_some_bases", none), "_law_some_bases", "_law_some_bases", ["_law_row", "_law_names", "_law_most"], ["_law_row", "_law_names", "_law_most", "_law_k", "_law_rest", "_law_found"], top 13, f__law_some_bases⟩
/-- law -/
def d_law : DefI := ⟨10, ("law", none), "law", "law", ["_law_script"], ["_law_script", "_law_row", "_law_k", "_law_wrong", "e", "_law_names", "_law_lists", "_law_one", "_law_found", "_law_is_base", "_law_at", "_law_name"], top 14, f_law⟩
def D : List DefI := [d_blocking_list, d_ring_of, d_merge_for, d_merge, d__law_taken, d__law_pick, d__law_words, d__law_some_bases, d_law]
def T : Txt := ⟨D, ⟨[(4, "InvalidLists", ["index"]), (1, "OrderConflict", ["name", "ring"])], [("InvalidLists", [4]), ("OrderConflict", [1])], [(4, [("ValueError", true), ("LiveError", true)])]⟩⟩
theorem chk : okTxt T = true := by decide +kernel
def names : List PySem.Str := ["LiveError", "InvalidLists", "OrderConflict", "blocking_list", "ring_of", "merge_for", "merge", "_law_taken", "_law_pick", "_law_words", "_law_some_bases"]
def li : Nat := 14
end K03

set_option Elab.async false
set_option linter.all false
set_option maxRecDepth 100000
set_option maxHeartbeats 0
namespace K03
open PySem L2 LL
theorem ob_eq (s : PySem.W.SharedT) : obsMG 5 R.prog T (HandSHeadRun.getT s) = (hookM 5 R.prog T).obs s.abs := obsMG_eq (HandSHeadRun.getT_eq s)
theorem run (w : World) : HandSHeadRun.RunEq R (PySem.W.view R.prog [li]) (hookM 5 R.prog T) (fun s => obsMG 5 R.prog T (HandSHeadRun.getT s)) 4000 names w := by
  intro os
  kernel_rfl
theorem law_ok : ∀ ns : List Int, ns.length ≤ 63 → ∃ S, callN (fnT T.D) 10 d_law.id [.scr ns] [] = .ok (.v (.bl true)) S := fun ns _ => LB.law03 rfl rfl rfl rfl rfl rfl rfl rfl rfl
end K03
open PySem PySem.W PySem.Calls PyProof.Rows
theorem PySem.Challenge.cw_livelookup_k03_lists_rejected_holds : PySem.Challenge.rw_livelookup_k03_lists_rejected.Holds := by
  w_on; o_law
  refine HandSHeadRun.head_any (r := K03.R) (q := view K03.R.prog [K03.li]) (H := LL.hookM 5 K03.R.prog K03.T) (ob := fun s => LL.obsMG 5 K03.R.prog K03.T (HandSHeadRun.getT s)) (M := 4000) (loose := K03.names) (d := HandSHeadRun.topDef K03.R.prog K03.li) (kwd := []) K03.ob_eq
    (by kernel_rfl) (fun s => by kernel_rfl) K03.run (by kernel_rfl) (by kernel_rfl) (by kernel_rfl) (by rfl) (by first | assumption | decide +kernel) (by decide +kernel) ⟨rfl, rfl, rfl, rfl, rfl, by decide +kernel⟩ ?hw ?hc
  case hw => w_witness2
  case hc => exact LL.law_endM (x := "_law_script") (n := 63) (k := 10) (dl := K03.d_law) rfl (by decide) (by kernel_rfl) (by decide) (by simp [K03.T, K03.D]) rfl (by kernel_rfl) K03.chk K03.law_ok

