import PyProof.Rows.All
import Wide.All
import OpenK.AllK
import Wide.FinOn
import HandS.ForMost
import HandS.ForExc
import HandS.TupAny
import HandS.Style
import HandS.Walk
import HandS.Strs
import PyProof.Draws
import HandS.IsInst
import PyProof.Rows.SortShellAny
import HandS.Codes
import PySem.Challenge.RW_livelookup_k01_whole_merge_of_hidden_ord
set_option Elab.async false
set_option linter.all false
set_option maxRecDepth 100000
set_option maxHeartbeats 2000000
/-! LLa: plain values of the own interpreter and how they lie in the hand layer's heap. -/
namespace LL
open PySem L2

/-- plain values: tuples, and lists that nobody writes any more, are values; ref n is the n-th object of the store -/
inductive W where
  | non | bl (b : Bool) | int (i : Int) | str (s : Str)
  | tup (xs : List W) | lst (xs : List W) | ref (n : Nat)
  /-- the script -/
  | scr (ns : List Int)
/-- an object of the store -/
inductive SO where
  | lst (xs : List W)
/-- a slot of a frame: a value, or a list that this slot alone holds -/
inductive Sl where
  | val (w : W) | own (xs : List W)
abbrev Env' := List (Option Sl)
structure ST where
  env : Env'
  sto : List SO

/-- a list at a that stays -/
structure LAt (φ : List Addr) (A : Addr → Prop) (H : Hp) (a : Addr) (vs : List V) : Prop where
  at_ : H a = some (.lst vs)
  nf : a ∉ φ
  na : ¬ A a
  sz : vs.length ≤ sizeLine
/-- a tuple at a -/
def TAt (K : PySem.W.Frag) (H : Hp) (a : Addr) (vs : List V) : Prop :=
  (H a = some (.tup vs) ∨
    ∃ (o : Obj) (its : Array Value) (n : Nat), K.lookup a = some o ∧ o.cls = .type "tuple" ∧ o.data = .seq its n ∧ its.size ≤ sizeLine ∧ Vals vs its.toList) ∧ vs.length ≤ sizeLine
theorem TAt.sq {K H a vs} (h : TAt K H a vs) : SqT K H a vs := by
  rcases h.1 with h | h
  · exact .inl (.inl h)
  · exact .inr h
/-- the script's list -/
def ScrAt (K : PySem.W.Frag) (φ : List Addr) (A : Addr → Prop) (H : Hp) (a : Addr) (vs : List V) : Prop :=
  (∃ o u, H a = some (.frz o u) ∧ a ∉ φ ∧ ¬ A a ∧ u = .lst vs) ∨
    ∃ (o : Obj) (its : Array Value) (n : Nat), K.lookup a = some o ∧ o.cls = .type "list" ∧ o.dict = none ∧ o.data = .seq its n ∧ its.size ≤ sizeLine ∧ Vals vs its.toList
theorem ScrAt.sq {K φ A H a vs} (h : ScrAt K φ A H a vs) : SqL K H a vs := by
  rcases h with ⟨o, u, h, _, _, rfl⟩ | h
  · exact .inl (.inr ⟨o, h⟩)
  · exact .inr h

mutual
def Rep (K : PySem.W.Frag) (φ : List Addr) (A : Addr → Prop) (H : Hp) : W → V → Prop
  | .non, v => v = .non
  | .bl b, v => v = .bl b
  | .int i, v => v = .int i
  | .str s, v => v = .str s ∧ PyData.strOk s = true
  | .tup ws, v => ∃ a vs, v = .ref a ∧ TAt K H a vs ∧ Reps K φ A H ws vs
  | .lst ws, v => ∃ a vs, v = .ref a ∧ LAt φ A H a vs ∧ Reps K φ A H ws vs
  | .ref n, v => ∃ a, φ[n]? = some a ∧ v = .ref a
  | .scr ns, v => ∃ a, v = .ref a ∧ ScrAt K φ A H a (ns.map V.int)
def Reps (K : PySem.W.Frag) (φ : List Addr) (A : Addr → Prop) (H : Hp) : List W → List V → Prop
  | [], vs => vs = []
  | w :: ws, vs => ∃ v r, vs = v :: r ∧ Rep K φ A H w v ∧ Reps K φ A H ws r
end

/-- the heap went on: φ grew by new addresses, what stood stands, tuples and what is neither in φ nor owned is as it was -/
structure Ext (φ : List Addr) (B : Addr → Prop) (H : Hp) (φ' : List Addr) (H' : Hp) : Prop where
  pre : φ <+: φ'
  new : ∀ a, a ∈ φ' → a ∈ φ ∨ H a = none
  dom : ∀ a o, H a = some o → ∃ o', H' a = some o'
  tup : ∀ a xs, H a = some (.tup xs) → H' a = some (.tup xs)
  frm : ∀ a o, H a = some o → a ∉ φ → ¬ B a → H' a = some o

theorem Ext.refl {φ B H} : Ext φ B H φ H := ⟨⟨[], by simp⟩, fun _ h => .inl h, fun _ o h => ⟨o, h⟩, fun _ _ h => h, fun _ _ h _ _ => h⟩
theorem Ext.notin {φ B H φ' H'} (e : Ext φ B H φ' H') {a : Addr} {o : HO} (h : H a = some o) (n : a ∉ φ) : a ∉ φ' := fun m => by
  rcases e.new a m with q | q
  · exact n q
  · rw [h] at q; cases q
theorem Ext.trans {φ B H φ1 B1 H1 φ2 H2} (e : Ext φ B H φ1 H1) (f : Ext φ1 B1 H1 φ2 H2) (hb : ∀ a, B1 a → B a) : Ext φ B H φ2 H2 where
  pre := e.pre.trans f.pre
  new := fun a m => by
    rcases f.new a m with q | q
    · exact e.new a q
    · right
      cases r : H a with
      | none => rfl
      | some o =>
        obtain ⟨o', z⟩ := e.dom a o r
        rw [q] at z; cases z
  dom := fun a o h => by
    obtain ⟨o', q⟩ := e.dom a o h
    exact f.dom a o' q
  tup := fun a xs h => f.tup a xs (e.tup a xs h)
  frm := fun a o h n b => f.frm a o (e.frm a o h n b) (e.notin h n) fun z => b (hb a z)
theorem Ext.weak {φ B B' H φ' H'} (e : Ext φ B H φ' H') (hb : ∀ a, B a → B' a) : Ext φ B' H φ' H' :=
  ⟨e.pre, e.new, e.dom, e.tup, fun a o h n b => e.frm a o h n fun z => b (hb a z)⟩
/-- a new object -/
theorem Ext.upd {φ B H} {p : Addr} {o : HO} (h : H p = none) : Ext φ B H φ (upd H p o) :=
  ⟨⟨[], by simp⟩, fun _ h => .inl h, fun a o' q => ⟨o', by rw [upd_ne (ne_of_none q h)]; exact q⟩, fun a xs q => by rw [upd_ne (ne_of_none q h)]; exact q,
    fun a o' q _ _ => by rw [upd_ne (ne_of_none q h)]; exact q⟩

theorem pre_get {φ φ' : List Addr} (h : φ <+: φ') {n : Nat} {a : Addr} (e : φ[n]? = some a) : φ'[n]? = some a := by
  obtain ⟨t, rfl⟩ := h
  rw [List.getElem?_append_left (List.getElem?_eq_some_iff.mp e).1]; exact e
theorem Ext.tat {K φ B H φ' H'} (e : Ext φ B H φ' H') {a : Addr} {vs : List V} (h : TAt K H a vs) : TAt K H' a vs := by
  refine ⟨?_, h.2⟩
  rcases h.1 with h | h
  · exact .inl (e.tup a vs h)
  · exact .inr h
theorem Ext.lat {φ A B H φ' H'} (e : Ext φ B H φ' H') (hb : ∀ a, B a → A a) {a : Addr} {vs : List V} (h : LAt φ A H a vs) : LAt φ' A H' a vs :=
  ⟨e.frm a _ h.at_ h.nf fun z => h.na (hb a z), e.notin h.at_ h.nf, h.na, h.sz⟩
theorem Ext.scr {K φ A B H φ' H'} (e : Ext φ B H φ' H') (hb : ∀ a, B a → A a) {a : Addr} {vs : List V} (h : ScrAt K φ A H a vs) : ScrAt K φ' A H' a vs := by
  rcases h with ⟨o, u, h, n, na, q⟩ | h
  · exact .inl ⟨o, u, e.frm a _ h n fun z => na (hb a z), e.notin h n, na, q⟩
  · exact .inr h
mutual
theorem Rep.ext {K φ A B H φ' H'} (e : Ext φ B H φ' H') (hb : ∀ a, B a → A a) : ∀ {w : W} {v : V}, Rep K φ A H w v → Rep K φ' A H' w v
  | .non, _, h => by unfold Rep at h ⊢; exact h
  | .bl _, _, h => by unfold Rep at h ⊢; exact h
  | .int _, _, h => by unfold Rep at h ⊢; exact h
  | .str _, _, h => by unfold Rep at h ⊢; exact h
  | .tup ws, _, h => by
    unfold Rep at h ⊢
    obtain ⟨a, vs, r, t, q⟩ := h
    exact ⟨a, vs, r, e.tat t, Reps.ext e hb q⟩
  | .lst ws, _, h => by
    unfold Rep at h ⊢
    obtain ⟨a, vs, r, t, q⟩ := h
    exact ⟨a, vs, r, e.lat hb t, Reps.ext e hb q⟩
  | .ref n, _, h => by
    unfold Rep at h ⊢
    obtain ⟨a, r, t⟩ := h
    exact ⟨a, pre_get e.pre r, t⟩
  | .scr ns, _, h => by
    unfold Rep at h ⊢
    obtain ⟨a, r, t⟩ := h
    exact ⟨a, r, e.scr hb t⟩
theorem Reps.ext {K φ A B H φ' H'} (e : Ext φ B H φ' H') (hb : ∀ a, B a → A a) : ∀ {ws : List W} {vs : List V}, Reps K φ A H ws vs → Reps K φ' A H' ws vs
  | [], _, h => by unfold Reps at h ⊢; exact h
  | w :: ws, _, h => by
    unfold Reps at h ⊢
    obtain ⟨v, r, q, h1, h2⟩ := h
    exact ⟨v, r, q, Rep.ext e hb h1, Reps.ext e hb h2⟩
end
mutual
theorem Rep.anti {K φ A A' H} (hb : ∀ a, A' a → A a) : ∀ {w : W} {v : V}, Rep K φ A H w v → Rep K φ A' H w v
  | .non, _, h => by unfold Rep at h ⊢; exact h
  | .bl _, _, h => by unfold Rep at h ⊢; exact h
  | .int _, _, h => by unfold Rep at h ⊢; exact h
  | .str _, _, h => by unfold Rep at h ⊢; exact h
  | .tup ws, _, h => by
    unfold Rep at h ⊢
    obtain ⟨a, vs, r, t, q⟩ := h
    exact ⟨a, vs, r, t, Reps.anti hb q⟩
  | .lst ws, _, h => by
    unfold Rep at h ⊢
    obtain ⟨a, vs, r, t, q⟩ := h
    exact ⟨a, vs, r, ⟨t.at_, t.nf, fun z => t.na (hb a z), t.sz⟩, Reps.anti hb q⟩
  | .ref n, _, h => by unfold Rep at h ⊢; exact h
  | .scr ns, _, h => by
    unfold Rep at h ⊢
    obtain ⟨a, r, t⟩ := h
    refine ⟨a, r, ?_⟩
    rcases t with ⟨o, u, h, n, na, q⟩ | t
    · exact .inl ⟨o, u, h, n, fun z => na (hb a z), q⟩
    · exact .inr t
theorem Reps.anti {K φ A A' H} (hb : ∀ a, A' a → A a) : ∀ {ws : List W} {vs : List V}, Reps K φ A H ws vs → Reps K φ A' H ws vs
  | [], _, h => by unfold Reps at h ⊢; exact h
  | w :: ws, _, h => by
    unfold Reps at h ⊢
    obtain ⟨v, r, q, h1, h2⟩ := h
    exact ⟨v, r, q, Rep.anti hb h1, Reps.anti hb h2⟩
end
/- a new address p (nothing stood there) is avoided by all that is represented -/
mutual
theorem Rep.fresh {K φ A H p o} (h0 : H p = none) : ∀ {w : W} {v : V}, Rep K φ A H w v → Rep K φ (fun a => A a ∨ a = p) (upd H p o) w v
  | .non, _, h => by unfold Rep at h ⊢; exact h
  | .bl _, _, h => by unfold Rep at h ⊢; exact h
  | .int _, _, h => by unfold Rep at h ⊢; exact h
  | .str _, _, h => by unfold Rep at h ⊢; exact h
  | .tup ws, _, h => by
    unfold Rep at h ⊢
    obtain ⟨a, vs, r, t, q⟩ := h
    exact ⟨a, vs, r, (Ext.upd (φ := φ) (B := A) h0).tat t, Reps.fresh h0 q⟩
  | .lst ws, _, h => by
    unfold Rep at h ⊢
    obtain ⟨a, vs, r, t, q⟩ := h
    have ne := ne_of_none t.at_ h0
    exact ⟨a, vs, r, ⟨by rw [upd_ne ne]; exact t.at_, t.nf, fun z => z.elim t.na ne, t.sz⟩, Reps.fresh h0 q⟩
  | .ref n, _, h => by unfold Rep at h ⊢; exact h
  | .scr ns, _, h => by
    unfold Rep at h ⊢
    obtain ⟨a, r, t⟩ := h
    refine ⟨a, r, ?_⟩
    rcases t with ⟨o', u, h, n, na, q⟩ | t
    · have ne := ne_of_none h h0
      exact .inl ⟨o', u, by rw [upd_ne ne]; exact h, n, fun z => z.elim na ne, q⟩
    · exact .inr t
theorem Reps.fresh {K φ A H p o} (h0 : H p = none) : ∀ {ws : List W} {vs : List V}, Reps K φ A H ws vs → Reps K φ (fun a => A a ∨ a = p) (upd H p o) ws vs
  | [], _, h => by unfold Reps at h ⊢; exact h
  | w :: ws, _, h => by
    unfold Reps at h ⊢
    obtain ⟨v, r, q, h1, h2⟩ := h
    exact ⟨v, r, q, Rep.fresh h0 h1, Reps.fresh h0 h2⟩
end
mutual
theorem Rep.apart' {K φ A H} : ∀ {w : W} {v : V}, Rep K φ A H w v → Rep K φ (fun a => A a ∨ H a = none) H w v
  | .non, _, h => by unfold Rep at h ⊢; exact h
  | .bl _, _, h => by unfold Rep at h ⊢; exact h
  | .int _, _, h => by unfold Rep at h ⊢; exact h
  | .str _, _, h => by unfold Rep at h ⊢; exact h
  | .tup ws, _, h => by
    unfold Rep at h ⊢
    obtain ⟨a, vs, r, t, q⟩ := h
    exact ⟨a, vs, r, t, Reps.apart' q⟩
  | .lst ws, _, h => by
    unfold Rep at h ⊢
    obtain ⟨a, vs, r, t, q⟩ := h
    exact ⟨a, vs, r, ⟨t.at_, t.nf, fun z => z.elim t.na fun e => (by rw [t.at_] at e; cases e), t.sz⟩, Reps.apart' q⟩
  | .ref n, _, h => by unfold Rep at h ⊢; exact h
  | .scr ns, _, h => by
    unfold Rep at h ⊢
    obtain ⟨a, r, t⟩ := h
    refine ⟨a, r, ?_⟩
    rcases t with ⟨o', u, h, n, na, q⟩ | t
    · exact .inl ⟨o', u, h, n, fun z => z.elim na fun e => (by rw [h] at e; cases e), q⟩
    · exact .inr t
theorem Reps.apart' {K φ A H} : ∀ {ws : List W} {vs : List V}, Reps K φ A H ws vs → Reps K φ (fun a => A a ∨ H a = none) H ws vs
  | [], _, h => by unfold Reps at h ⊢; exact h
  | w :: ws, _, h => by
    unfold Reps at h ⊢
    obtain ⟨v, r, q, h1, h2⟩ := h
    exact ⟨v, r, q, Rep.apart' h1, Reps.apart' h2⟩
end
theorem Rep.apart {K φ A H p} (h0 : H p = none) {w : W} {v : V} (h : Rep K φ A H w v) : Rep K φ (fun a => A a ∨ a = p) H w v :=
  h.apart'.anti fun a z => z.elim .inl fun e => .inr (by rw [e]; exact h0)
theorem Reps.apart {K φ A H p} (h0 : H p = none) {w : List W} {v : List V} (h : Reps K φ A H w v) : Reps K φ (fun a => A a ∨ a = p) H w v :=
  h.apart'.anti fun a z => z.elim .inl fun e => .inr (by rw [e]; exact h0)
/-- later: the heap went on, what is avoided then was avoided before or is new -/
theorem Rep.later {K φ A B H φ' A' H'} {w : W} {v : V} (h : Rep K φ A H w v) (e : Ext φ B H φ' H') (hb : ∀ a, B a → A a) (ha : ∀ a, A' a → A a ∨ H a = none) : Rep K φ' A' H' w v :=
  (h.apart'.ext e fun a z => .inl (hb a z)).anti ha
theorem Reps.later {K φ A B H φ' A' H'} {w : List W} {v : List V} (h : Reps K φ A H w v) (e : Ext φ B H φ' H') (hb : ∀ a, B a → A a) (ha : ∀ a, A' a → A a ∨ H a = none) : Reps K φ' A' H' w v :=
  (h.apart'.ext e fun a z => .inl (hb a z)).anti ha
/- a list that is avoided, or of the store, is written -/
mutual
theorem Rep.put {K φ A H p o xs} (h0 : H p = some (.lst xs)) (hp : A p ∨ p ∈ φ) : ∀ {w : W} {v : V}, Rep K φ A H w v → Rep K φ A (upd H p o) w v
  | .non, _, h => by unfold Rep at h ⊢; exact h
  | .bl _, _, h => by unfold Rep at h ⊢; exact h
  | .int _, _, h => by unfold Rep at h ⊢; exact h
  | .str _, _, h => by unfold Rep at h ⊢; exact h
  | .tup ws, _, h => by
    unfold Rep at h ⊢
    obtain ⟨a, vs, r, t, q⟩ := h
    refine ⟨a, vs, r, ⟨?_, t.2⟩, Reps.put h0 hp q⟩
    rcases t.1 with t | t
    · exact .inl (by rw [upd_ne (ne_of t h0 (by intro z; cases z))]; exact t)
    · exact .inr t
  | .lst ws, _, h => by
    unfold Rep at h ⊢
    obtain ⟨a, vs, r, t, q⟩ := h
    have ne : a ≠ p := fun e => by
      subst e
      exact hp.elim t.na t.nf
    exact ⟨a, vs, r, ⟨by rw [upd_ne ne]; exact t.at_, t.nf, t.na, t.sz⟩, Reps.put h0 hp q⟩
  | .ref n, _, h => by unfold Rep at h ⊢; exact h
  | .scr ns, _, h => by
    unfold Rep at h ⊢
    obtain ⟨a, r, t⟩ := h
    refine ⟨a, r, ?_⟩
    rcases t with ⟨o', u, h, n, na, q⟩ | t
    · have ne : a ≠ p := fun e => by
        subst e
        exact hp.elim na n
      exact .inl ⟨o', u, by rw [upd_ne ne]; exact h, n, na, q⟩
    · exact .inr t
theorem Reps.put {K φ A H p o xs} (h0 : H p = some (.lst xs)) (hp : A p ∨ p ∈ φ) : ∀ {ws : List W} {vs : List V}, Reps K φ A H ws vs → Reps K φ A (upd H p o) ws vs
  | [], _, h => by unfold Reps at h ⊢; exact h
  | w :: ws, _, h => by
    unfold Reps at h ⊢
    obtain ⟨v, r, q, h1, h2⟩ := h
    exact ⟨v, r, q, Rep.put h0 hp h1, Reps.put h0 hp h2⟩
end
/- a hidden list joins the store -/
mutual
theorem Rep.grow {K φ A H p} : ∀ {w : W} {v : V}, Rep K φ (fun a => A a ∨ a = p) H w v → Rep K (φ ++ [p]) A H w v
  | .non, _, h => by unfold Rep at h ⊢; exact h
  | .bl _, _, h => by unfold Rep at h ⊢; exact h
  | .int _, _, h => by unfold Rep at h ⊢; exact h
  | .str _, _, h => by unfold Rep at h ⊢; exact h
  | .tup ws, _, h => by
    unfold Rep at h ⊢
    obtain ⟨a, vs, r, t, q⟩ := h
    exact ⟨a, vs, r, t, Reps.grow q⟩
  | .lst ws, _, h => by
    unfold Rep at h ⊢
    obtain ⟨a, vs, r, t, q⟩ := h
    refine ⟨a, vs, r, ⟨t.at_, fun m => ?_, fun z => t.na (.inl z), t.sz⟩, Reps.grow q⟩
    rcases List.mem_append.mp m with m | m
    · exact t.nf m
    · exact t.na (.inr (by simpa using m))
  | .ref n, _, h => by
    unfold Rep at h ⊢
    obtain ⟨a, r, t⟩ := h
    exact ⟨a, pre_get ⟨[p], rfl⟩ r, t⟩
  | .scr ns, _, h => by
    unfold Rep at h ⊢
    obtain ⟨a, r, t⟩ := h
    refine ⟨a, r, ?_⟩
    rcases t with ⟨o', u, h, n, na, q⟩ | t
    · refine .inl ⟨o', u, h, fun m => ?_, fun z => na (.inl z), q⟩
      rcases List.mem_append.mp m with m | m
      · exact n m
      · exact na (.inr (by simpa using m))
    · exact .inr t
theorem Reps.grow {K φ A H p} : ∀ {ws : List W} {vs : List V}, Reps K φ (fun a => A a ∨ a = p) H ws vs → Reps K (φ ++ [p]) A H ws vs
  | [], _, h => by unfold Reps at h ⊢; exact h
  | w :: ws, _, h => by
    unfold Reps at h ⊢
    obtain ⟨v, r, q, h1, h2⟩ := h
    exact ⟨v, r, q, Rep.grow h1, Reps.grow h2⟩
end
section
variable {K : PySem.W.Frag} {φ : List Addr} {A : Addr → Prop} {H : Hp}
theorem Reps.nil : Reps K φ A H [] [] := by unfold Reps; rfl
theorem Reps.cons {w v ws vs} (h : Rep K φ A H w v) (r : Reps K φ A H ws vs) : Reps K φ A H (w :: ws) (v :: vs) := by unfold Reps; exact ⟨v, vs, rfl, h, r⟩
theorem Reps.length : ∀ {ws : List W} {vs : List V}, Reps K φ A H ws vs → vs.length = ws.length
  | [], _, h => by unfold Reps at h; subst h; rfl
  | _ :: ws, _, h => by
    unfold Reps at h
    obtain ⟨v, r, rfl, _, q⟩ := h
    simp [Reps.length q]
theorem Reps.get : ∀ {ws : List W} {vs : List V} {i : Nat} {w : W}, Reps K φ A H ws vs → ws[i]? = some w → ∃ v, vs[i]? = some v ∧ Rep K φ A H w v
  | [], _, _, _, _, e => by simp at e
  | w :: ws, _, 0, _, h, e => by
    unfold Reps at h
    obtain ⟨v, r, rfl, q, _⟩ := h
    simp at e; subst e
    exact ⟨v, rfl, q⟩
  | w :: ws, _, i + 1, _, h, e => by
    unfold Reps at h
    obtain ⟨v, r, rfl, _, q⟩ := h
    obtain ⟨v', h1, h2⟩ := Reps.get (i := i) q (by simpa using e)
    exact ⟨v', by simpa using h1, h2⟩
theorem Reps.get' : ∀ {ws : List W} {vs : List V} {i : Nat} {v : V}, Reps K φ A H ws vs → vs[i]? = some v → ∃ w, ws[i]? = some w ∧ Rep K φ A H w v := fun {ws vs i v} h e => by
  have hl := h.length
  have hi : i < ws.length := by rw [← hl]; exact (List.getElem?_eq_some_iff.mp e).1
  obtain ⟨v', h1, h2⟩ := h.get (List.getElem?_eq_getElem hi)
  rw [h1] at e; cases e
  exact ⟨_, List.getElem?_eq_getElem hi, h2⟩
theorem Reps.append : ∀ {ws ws' : List W} {vs vs' : List V}, Reps K φ A H ws vs → Reps K φ A H ws' vs' → Reps K φ A H (ws ++ ws') (vs ++ vs')
  | [], _, _, _, h, r => by unfold Reps at h; subst h; exact r
  | w :: ws, _, _, _, h, r => by
    unfold Reps at h
    obtain ⟨v, q, rfl, h1, h2⟩ := h
    exact Reps.cons h1 (Reps.append h2 r)
theorem Reps.drop : ∀ {ws : List W} {vs : List V} (n : Nat), Reps K φ A H ws vs → Reps K φ A H (ws.drop n) (vs.drop n)
  | _, _, 0, h => h
  | [], _, n + 1, h => by unfold Reps at h; subst h; exact Reps.nil
  | w :: ws, _, n + 1, h => by
    unfold Reps at h
    obtain ⟨v, q, rfl, h1, h2⟩ := h
    exact Reps.drop n h2
theorem Reps.take : ∀ {ws : List W} {vs : List V} (n : Nat), Reps K φ A H ws vs → Reps K φ A H (ws.take n) (vs.take n)
  | _, _, 0, _ => by simp [Reps.nil]
  | [], _, n + 1, h => by unfold Reps at h; subst h; exact Reps.nil
  | w :: ws, _, n + 1, h => by
    unfold Reps at h
    obtain ⟨v, q, rfl, h1, h2⟩ := h
    exact Reps.cons h1 (Reps.take n h2)
theorem Reps.erase : ∀ {ws : List W} {vs : List V} (n : Nat), Reps K φ A H ws vs → Reps K φ A H (ws.eraseIdx n) (vs.eraseIdx n)
  | [], _, _, h => by unfold Reps at h; subst h; exact Reps.nil
  | w :: ws, _, 0, h => by
    unfold Reps at h
    obtain ⟨v, q, rfl, h1, h2⟩ := h
    exact h2
  | w :: ws, _, n + 1, h => by
    unfold Reps at h
    obtain ⟨v, q, rfl, h1, h2⟩ := h
    exact Reps.cons h1 (Reps.erase n h2)
theorem Reps.set : ∀ {ws : List W} {vs : List V} (n : Nat) {w : W} {v : V}, Reps K φ A H ws vs → Rep K φ A H w v → Reps K φ A H (ws.set n w) (vs.set n v)
  | [], _, _, _, _, h, _ => by unfold Reps at h; subst h; exact Reps.nil
  | w :: ws, _, 0, _, _, h, r => by
    unfold Reps at h
    obtain ⟨v, q, rfl, h1, h2⟩ := h
    exact Reps.cons r h2
  | w :: ws, _, n + 1, _, _, h, r => by
    unfold Reps at h
    obtain ⟨v, q, rfl, h1, h2⟩ := h
    exact Reps.cons h1 (Reps.set n h2 r)
theorem Reps.rev : ∀ {ws : List W} {vs : List V}, Reps K φ A H ws vs → Reps K φ A H ws.reverse vs.reverse
  | [], _, h => by unfold Reps at h; subst h; exact Reps.nil
  | w :: ws, _, h => by
    unfold Reps at h
    obtain ⟨v, q, rfl, h1, h2⟩ := h
    rw [List.reverse_cons, List.reverse_cons]
    exact (Reps.rev h2).append (Reps.cons h1 Reps.nil)
theorem rep_int {v i} : Rep K φ A H (.int i) v ↔ v = .int i := by unfold Rep; exact Iff.rfl
theorem rep_bl {v b} : Rep K φ A H (.bl b) v ↔ v = .bl b := by unfold Rep; exact Iff.rfl
theorem rep_str {v s} : Rep K φ A H (.str s) v ↔ v = .str s ∧ PyData.strOk s = true := by unfold Rep; exact Iff.rfl
theorem rep_non {v} : Rep K φ A H .non v ↔ v = .non := by unfold Rep; exact Iff.rfl
theorem rep_tup {v ws} : Rep K φ A H (.tup ws) v ↔ ∃ a vs, v = .ref a ∧ TAt K H a vs ∧ Reps K φ A H ws vs := by rw [Rep]
theorem rep_lst {v ws} : Rep K φ A H (.lst ws) v ↔ ∃ a vs, v = .ref a ∧ LAt φ A H a vs ∧ Reps K φ A H ws vs := by rw [Rep]
theorem rep_ref {v n} : Rep K φ A H (.ref n) v ↔ ∃ a, φ[n]? = some a ∧ v = .ref a := by rw [Rep]
theorem rep_scr {v ns} : Rep K φ A H (.scr ns) v ↔ ∃ a, v = .ref a ∧ ScrAt K φ A H a (ns.map V.int) := by rw [Rep]
end

/-! ### frames and stores -/
/-- the address of a list that a slot alone holds -/
def OE (env : Env') (σ : St) (a : Addr) : Prop := ∃ (i : Nat) (ws : List W), env[i]? = some (some (.own ws)) ∧ σ[i]? = some (some (.ref a))
/-- what no represented value touches: the slots' own lists, and the hidden ones -/
def AV (Z : Addr → Prop) (env : Env') (σ : St) (a : Addr) : Prop := Z a ∨ OE env σ a
def SlotOk (K : PySem.W.Frag) (φ : List Addr) (A : Addr → Prop) (H : Hp) : Sl → Option V → Prop
  | .val w, v => ∃ u, v = some u ∧ Rep K φ A H w u
  | .own ws, v => ∃ a vs, v = some (.ref a) ∧ a ∉ φ ∧ H a = some (.lst vs) ∧ vs.length ≤ sizeLine ∧ Reps K φ A H ws vs
def ObjAt (K : PySem.W.Frag) (φ : List Addr) (A : Addr → Prop) (H : Hp) : SO → Addr → Prop
  | .lst ws, a => ∃ vs, H a = some (.lst vs) ∧ vs.length ≤ sizeLine ∧ Reps K φ A H ws vs
structure RelS (K : PySem.W.Frag) (φ : List Addr) (A : Addr → Prop) (H : Hp) (S : List SO) : Prop where
  len : φ.length = S.length
  nd : φ.Nodup
  av : ∀ a ∈ φ, ¬ A a
  obj : ∀ (n : Nat) a so, φ[n]? = some a → S[n]? = some so → ObjAt K φ A H so a
structure Rel (K : PySem.W.Frag) (φ : List Addr) (Z : Addr → Prop) (st : ST) (σ : St) (H : Hp) : Prop where
  sto : RelS K φ (AV Z st.env σ) H st.sto
  len : st.env.length = σ.length
  env : ∀ (i : Nat) s, st.env[i]? = some (some s) → ∃ v, σ[i]? = some v ∧ SlotOk K φ (AV Z st.env σ) H s v
  dis : ∀ (i j : Nat) ws ws' a, st.env[i]? = some (some (.own ws)) → st.env[j]? = some (some (.own ws')) → σ[i]? = some (some (.ref a)) → σ[j]? = some (some (.ref a)) → i = j
  hid : ∀ a, OE st.env σ a → ¬ Z a
  zd : ∀ a, Z a → ∃ o, H a = some o
end LL

set_option Elab.async false
set_option linter.all false
set_option maxRecDepth 100000
set_option maxHeartbeats 4000000
/-! LLo: how many words a tuple holds, by set. -/
namespace LL
open PySem L2 PySem.Spec

/-- how many of the first i words are new -/
def news (xs : List Str) : Nat → Nat
  | 0 => 0
  | i + 1 => if decide (xs.getD i Str.empty ∈ xs.take i) = true then news xs i else news xs i + 1
theorem news_le (xs : List Str) : ∀ i, news xs i ≤ i
  | 0 => Nat.le_refl 0
  | i + 1 => by
    have := news_le xs i
    unfold news
    split <;> omega
section
variable {P : Program} {w : World} {A : Around} {E : Value → Shared → Prop} {s : Shared}
/-- the object of an empty set -/
abbrev nuS (led : Bool) : Obj := { cls := .type "set", dict := none, data := .set #[] 0 (.fresh 0 0 led) }
abbrev HS (P : Program) (w : World) (h : Heap) (a : Addr) (xs : List Str) (i : Nat) : Prop := h.SetOf (PySem.strKind P w) a (fun k => decide (k ∈ xs.take i)) (news xs i)
theorem HS.mv {h h' : Heap} {a : Addr} {xs : List Str} {i : Nat} (x : HS P w h a xs i) (k : ∀ o, h.get? a = some o → h'.get? a = some o) : HS P w h' a xs i := by
  obtain ⟨o, es, ep, t, q, rest⟩ := x
  exact ⟨o, es, ep, t, k o q, rest⟩
theorem set_loop {I : Addr} {fp wr : List Addr} {G : Array GenState → Array GenState → Prop} {n : Nat} {Pv : Nat → Value → Prop} {St : Nat → Shared → Prop} {R : Result → Shared → Prop} (W : PySem.WalksS P w A.in1 I fp wr G n Pv St) {S : Addr} (hf : S ∉ fp) {xs : List Str} (hn : xs.length = n) (hb : n + 1 < scanBound)
    (hv : ∀ i v, Pv i v → ∃ t, v = .str (xs.getD i Str.empty) t) : ∀ (m i : Nat) (s : Shared), n = m + i → St i s → HS P w s.heap S xs i →
      (∀ s', Moved (S :: wr) G s s' → HS P w s'.heap S xs n → R (.ok (.ret .none)) s') → codeAny (model P w) A (.builtin "set.update.loop" ⟨[.ref S, .ref I], []⟩) R s := by
  have hw : S ∉ wr := fun z => hf (W.sub _ z)
  have up : ∀ b ∈ wr, b ∈ S :: wr := fun b z => List.mem_cons_of_mem _ z
  intro m
  induction m with
  | zero =>
    intro i s e st hs k
    rw [Nat.zero_add] at e
    subst e
    refine codeAny_builtin PyProof.Rows.F.entry_set_update_loop ?_
    rw [Around.under_plainId PyProof.Rows.F.plain_set_update_loop _]
    refine (show wpAny _ A.in1 (pyNext (.ref I) >>= _) _ _ s from ?_)
    exact wpAny_bind (W.done s _ _ st fun s' mv => wpAny_pure (k s' (mv.mono up) (hs.mv fun o q => mv.heap S o hw q)))
  | succ m ih =>
    intro i s e st hs k
    have hi : i < n := by omega
    refine codeAny_builtin PyProof.Rows.F.entry_set_update_loop ?_
    rw [Around.under_plainId PyProof.Rows.F.plain_set_update_loop _]
    refine (show wpAny _ A.in1 (pyNext (.ref I) >>= _) _ _ s from ?_)
    refine wpAny_bind (W.item i s _ _ hi st fun v s' pv st' mv => ?_)
    obtain ⟨t, rfl⟩ := hv i v pv
    have hs' : HS P w s'.heap S xs i := hs.mv fun o q => mv.heap S o hw q
    refine (show wpAny _ A.in1 (holding [Value.str (xs.getD i Str.empty) t] (setAdd S (.str (xs.getD i Str.empty) t)) >>= _) _ _ s' from ?_)
    refine wpAny_bind (wpAny_holding ?_)
    unfold setAdd
    refine wpAny_holding (wpAny_bind ((PySem.strKind P w).pyHash (k := xs.getD i Str.empty) (strKind_is _ _ _ _) ?_))
    have hr : news xs i + 1 < scanBound := by have := news_le xs i; omega
    refine wpAny_setAddHashed_of (s := { s' with toks := s'.toks + 1 }) (knd := PySem.strKind P w) (strKind_is _ _ _ _) rfl hs' hr fun h2 sb hs2 => ?_
    have hs3 : HS P w h2 S xs (i + 1) := by
      refine PyProof.Rows.SetOf_congr hs2 (fun k => ?_) ?_
      · have hx : xs[i]? = some (xs.getD i Str.empty) := by
          have h' : i < xs.length := by omega
          rw [List.getD_eq_getElem?_getD, List.getElem?_eq_getElem h']; rfl
        rw [List.take_add_one, hx]
        simp [List.mem_append]
      · rw [news]
    refine wpAny_pure ⟨plainId_quiet PyProof.Rows.F.plain_set_update_loop _, ih (i + 1) _ (by omega) (W.frame _ s' _ _ st' (Nat.le_succ _) fun b mb o q => ?_) hs3 fun s3 mv3 hs4 => k s3 ?_ hs4⟩
    · have nb : b ≠ S := fun z => hf (by rw [← z]; exact mb)
      rw [sb.2 b nb]; exact q
    · refine Moved.trans W.gtrans ((mv.mono up).then_heap (Nat.le_succ _) fun b o nb q => ?_) mv3
      have nb' : b ≠ S := fun z => nb (by rw [z]; exact List.mem_cons_self)
      rw [sb.2 b nb']; exact q
/-- set(..) of a tuple of words -/
theorem set_tup {l : Addr} {its : Array Value} {xs : List Str} {Q : Value → Shared → Prop} (hh : A.handled = none) (hl : s.heap.IsTuple l its) (hi : PyProof.Rows.StrsAre its.toList xs) (hb : xs.length + 1 < scanBound)
    (q : ∀ (h' : Heap) (tk : Nat), HS P w h' s.heap.objs.size xs xs.length → (∀ b o, s.heap.get? b = some o → h'.get? b = some o) → Q (.ref s.heap.objs.size) { s with heap := h', toks := tk }) :
    wpAny (model P w) A (call (.type "set") [.ref l]) Q E s := by
  have hz : xs.length = its.size := by rw [← PyProof.Rows.StrsAre.len_eq hi, Array.length_toList]
  obtain ⟨c, tl, mro⟩ := PySem.F.called_set.mro
  have made := PySem.F.called_set.made
  have isub := PySem.F.called_set.sub
  refine wpAny_call (codeAny_of_tree ?_)
  refine (show wpAny _ _ (callAny (.type "set") _) _ _ _ from ?_)
  refine wpAny_pure ⟨Code.quiet_builtin _ (by decide +kernel), codeAny_builtin PySem.F.entry_type_call ?_⟩
  rw [Around.under_plain (weight_type_call_type "set" [.ref l] []) rfl]
  have g1 := PySem.F.called_set.notType
  have g2 := PySem.F.called_set.canCreate
  have g3 := PySem.F.typeCall_set_1 (.ref l)
  repeat (any_goals (first | assumption | wp_step))
  refine codeAny_mono (code_set_new_1 (.ref l) (E := E) (Q₁ := fun ob s1 => ∃ led : Bool, ob = .ref s.heap.objs.size ∧ s1 = { s with heap := s.heap.push (nuS led) }) fun led => ⟨led, rfl, rfl⟩) fun r s1 hr => ?_
  cases r with
  | error e => exact hr
  | ok fl =>
    cases fl with
    | ret ob =>
      obtain ⟨led, rfl, rfl⟩ := hr
      have oS : (s.heap.push (nuS led)).get? s.heap.objs.size = some (nuS led) := Heap.get?_push_size _ rfl
      have tS : Shared.TypeIs { s with heap := s.heap.push (nuS led) } (.ref s.heap.objs.size) "set" := ⟨_, oS, rfl⟩
      have g4 := PySem.F.called_set.init.lookup
      have g5 := PySem.F.called_set.init.bind (.ref s.heap.objs.size)
      repeat (any_goals (first | assumption | wp_step))
      refine codeAny_mono (codeAny_call_builtin (R := wants (fun r s2 => r = .none ∧ ∃ h' tk, s2 = { s with heap := h', toks := tk } ∧ HS P w h' s.heap.objs.size xs xs.length ∧ (∀ b o, s.heap.get? b = some o → h'.get? b = some o)) E) PySem.F.called_set.init.plain PySem.F.entry_set_init (check_set_init_1 tS ?_)) fun r2 s2 hr2 => ?_
      · obtain ⟨⟨oc, od, odt, osl⟩, ho, hc, nl, hd⟩ := hl
        simp only at hc hd
        subst hc hd
        have ho' : (s.heap.push (nuS led)).get? l = some { cls := .type "tuple", dict := od, data := .seq its nl, slots := osl } := Heap.get?_push_of_some _ ho
        have g6 := PySem.F.sub_tuple_set
        have g7 := PySem.F.sub_tuple_frozenset
        have g8 : (Value.type "tuple" == Value.type "dict") = false := by decide
        have tl1 : (s.heap.push (nuS led)).IsTuple l its := ⟨_, ho', rfl, nl, rfl⟩
        unfold Builtin.«set.__init__» noKeywords Builtin.Frozenset.updateFrom
        generalize hp : pyIter = PI
        wp_walk
        subst hp
        refine wpAny_pyIter_tuple tl1 (wpAny_bind (wpAny_runValue ?_))
        have lS : l < s.heap.objs.size := Heap.lt_size ho
        have h3 : A.in1.in1.in1.handled = none := by simp [hh]
        have zI : (s.heap.push (nuS led)).objs.size = s.heap.objs.size + 1 := Heap.size_push ..
        have nI : l ≠ (s.heap.push (nuS led)).objs.size := by rw [zI]; exact Nat.ne_of_lt (Nat.lt_succ_of_lt lS)
        have nS : s.heap.objs.size ∉ [(s.heap.push (nuS led)).objs.size, l] := by
          rw [zI]
          intro z
          rcases List.mem_cons.mp z with z | z
          · exact Nat.ne_of_lt (Nat.lt_succ_self _) z
          · exact Nat.ne_of_lt lS (List.mem_singleton.mp z).symm
        refine set_loop ((Walks.tuple h3 _ l nI its).toS) (S := s.heap.objs.size) nS hz (by omega) (fun i v e => SS.strs_at hi i v (by rw [Array.getElem?_toList]; exact e)) its.size 0 _ (by omega)
          ⟨⟨_, Heap.get?_push_size _ rfl, rfl, rfl⟩, (tl1.push _)⟩ ?_ ?_
        · have oS' : ((s.heap.push (nuS led)).push { cls := .type "tuple_iterator", data := .fields #[.ref l, .int 0 0] }).get? s.heap.objs.size = some (nuS led) := Heap.get?_push_of_some _ oS
          exact PyProof.Rows.SetOf_congr ((PyProof.Rows.setObjOf_fresh (knd := PySem.strKind P w) led).setOf oS' (by unfold scanBound; omega)) (fun k => by simp) rfl
        · intro s' mv hs
          obtain ⟨h', g', d', tk', os'⟩ := s'
          obtain rfl : g' = s.gens := mv.gens
          obtain rfl : d' = s.drawn := mv.drawn
          obtain rfl : os' = s.os := mv.os
          refine (show wpAny _ _ _ _ _ _ from wpAny_pure ?_)
          refine (show wpAny _ _ (ret Value.none) _ _ _ from wpAny_pure ⟨rfl, h', tk', rfl, by rw [← hz] at hs; exact hs, fun b o e => ?_⟩)
          have hb0 : b < s.heap.objs.size := Heap.lt_size e
          refine mv.heap b o (fun z => ?_) (Heap.get?_push_of_some _ (Heap.get?_push_of_some _ e))
          rcases List.mem_cons.mp z with z | z
          · exact Nat.ne_of_lt hb0 z
          · have z2 := List.mem_singleton.mp z
            rw [zI] at z2
            exact Nat.ne_of_lt (Nat.lt_succ_of_lt hb0) z2
      · cases r2 with
        | error e => exact hr2
        | ok fl2 =>
          cases fl2 with
          | ret r =>
            obtain ⟨rfl, h', tk, rfl, hs, hk⟩ := hr2
            repeat (any_goals (first | assumption | wp_step))
            exact q _ _ hs hk
          | _ => exact hr2.elim
    | _ => exact hr.elim
end
end LL

set_option Elab.async false
set_option linter.all false
set_option maxRecDepth 100000
set_option maxHeartbeats 4000000
/-! LLp: enumerate over a tuple. -/
namespace LL
open PySem L2 PySem.Spec AutoSeq1
section
variable {P : Program} {w : World} {A : Around} {E : Value → Shared → Prop} {s : Shared}
/-- a tuple's iterator drawn from within -/
theorem tupDraw (hh : A.handled = none) (it t : Addr) (ne : t ≠ it) (vs : Array Value) : PySem.Draws P w A it [it, t] vs.size (fun i v => vs[i]? = some v) fun i h => h.IsTupleIter it t i ∧ h.IsTuple t vs where
  live := fun i h st => st.1.elim fun o q => ⟨o, q.1⟩
  frame := fun i h h' st k => ⟨st.1.at fun o q => k it List.mem_cons_self o q, let ⟨o, q, r⟩ := st.2; ⟨o, k t (by simp) o q, r⟩⟩
  item := fun i s Q E hi st q => by
    obtain ⟨⟨o, ho, hc, hd⟩, ht⟩ := id st
    obtain ⟨ot, hot, _, nt, hdt⟩ := ht
    have tI := st.1.typeIs
    have hx : vs[i]? = some vs[i] := by simp [hi]
    unfold Builtin.SmallTypes.nextOf
    refine wpAny_bind (wpAny_callSpecial?_slot (name := Str.ofString "__next__") tI F.slot_tuple_iterator_next (wpAny_call_entry F.slot_tuple_iterator_next tI F.entry_tuple_iterator_next ?_ (F.args_tuple_iterator_next_1 _)))
    refine (show wpAny _ _ (field (.ref it) 0 >>= _) _ _ s from wpAny_bind (wpAny_field ho hd (x := .ref t) rfl ?_))
    refine (show wpAny _ _ (if (Value.ref t == Value.none) = true then _ else _) _ _ s from ?_)
    rw [if_neg (fun z : (Value.ref t == Value.none) = true => Bool.false_ne_true z)]
    refine (show wpAny _ _ (field (.ref it) 1 >>= _) _ _ s from wpAny_bind (wpAny_field ho hd (x := .int i 0) rfl ?_))
    refine (show wpAny _ _ (seqItems? (.ref t) >>= _) _ _ s from wpAny_bind (wpAny_seqItems hot hdt ?_))
    simp only [Int.toNat_natCast, hx]
    refine wpAny_bind (wpAny_setField ho hd (by simp) (wpAny_pure ⟨_, rfl, wpAny_pure (q _ _ s.toks hx ⟨?_, ?_⟩ (Heap.SameBut.update ..))⟩))
    · refine ⟨_, Heap.get?_update_self _ ho (Obj.isFreed_of_fields (Obj.data_mapFields hd _)), (Obj.cls_mapFields ..).trans hc, ?_⟩
      rw [Obj.data_mapFields hd]
      simp [rawInt]
    · exact st.2.extBut (Heap.SameBut.update ..).extBut ne
  done := fun s Q E st q => by
    obtain ⟨⟨o, ho, hc, hd⟩, ht⟩ := id st
    obtain ⟨ot, hot, _, nt, hdt⟩ := ht
    have tI := st.1.typeIs
    have hx : vs[vs.size]? = none := by simp
    unfold Builtin.SmallTypes.nextOf
    refine wpAny_bind (wpAny_callSpecial?_slot (name := Str.ofString "__next__") tI F.slot_tuple_iterator_next (wpAny_call_entry F.slot_tuple_iterator_next tI F.entry_tuple_iterator_next ?_ (F.args_tuple_iterator_next_1 _)))
    refine (show wpAny _ _ (field (.ref it) 0 >>= _) _ _ s from wpAny_bind (wpAny_field ho hd (x := .ref t) rfl ?_))
    refine (show wpAny _ _ (if (Value.ref t == Value.none) = true then _ else _) _ _ s from ?_)
    rw [if_neg (fun z : (Value.ref t == Value.none) = true => Bool.false_ne_true z)]
    refine (show wpAny _ _ (field (.ref it) 1 >>= _) _ _ s from wpAny_bind (wpAny_field ho hd (x := .int vs.size 0) rfl ?_))
    refine (show wpAny _ _ (seqItems? (.ref t) >>= _) _ _ s from wpAny_bind (wpAny_seqItems hot hdt ?_))
    simp only [Int.toNat_natCast, hx]
    refine wpAny_bind (wpAny_rule (wpAny_bind (wpAny_setField ho hd (by simp) ?_)))
    refine (show wpAny _ _ (newExc (.type "StopIteration") [] >>= _) _ _ _ from wpAny_bind ?_)
    simp only [newExc, newTuple]
    refine wpAny_bind (wpAny_newObj_type ?_ (by size_fits))
    refine wpAny_bind (m := firstArgMember _ _) (wpAny_of_eq (a := Value.none) (by first | rfl | (simp only [firstArgMember]; rfl)) (wpAny_newObj_type ?_ (by size_fits)))
    simp only [raiseNew]
    refine wpAny_bind (wpAny_handled ?_)
    rw [show A.in1.handled = none from hh]
    exact wpAny_bind (wpAny_pure (wpAny_throw (q _ _ (((Heap.SameBut.update ..).extBut.push _).push _) ⟨_, Heap.get?_push_size _ rfl, rfl⟩)))
/-- the objects that enumerate(t) makes -/
abbrev tiO (t : Addr) : Obj := { cls := .type "tuple_iterator", data := .fields #[.ref t, .int 0 0] }
abbrev enO (it : Addr) : Obj := { cls := .type "enumerate", data := .fields #[.none, .bool false, .ref it, rawInt 0, .none, .none] }
theorem enum_newT (t : Addr) (vs : Array Value) (n : Nat) (dd : Option Addr) (sl : Array (Option Value)) :
    Meets (Builtin.«enumerate.__new__» ⟨[.type "enumerate", .ref t], []⟩) (fun _ R s => s.heap.get? t = some { cls := .type "tuple", dict := dd, data := .seq vs n, slots := sl } ∧
      R (.ok (.ret (.ref (s.heap.push (tiO t)).objs.size))) { s with heap := (s.heap.push (tiO t)).push (enO s.heap.objs.size) }) :=
  .of_wp fun prog w A R s h => by
    obtain ⟨hp, g, d, tk, os⟩ := s
    obtain ⟨ht, h⟩ := h
    have sb := sub_enumerate
    have iT : Heap.IsTuple (Shared.heap ⟨hp, g, d, tk, os⟩) t vs := ⟨_, ht, rfl, n, rfl⟩
    wp_walk using wpAny_loadPart' ht
    refine wpAny_stack_any fun st => wpAny_pure ?_
    split
    · rename_i c _ _ _ _ _
      cases (c == Value.type "enumerate") <;>
      · wp_walk using wpAny_loadPart' ht, wpAny_pyIter_tuple iT
        exact ⟨_, rfl, h⟩
    · wp_walk using wpAny_loadPart' ht, wpAny_pyIter_tuple iT
      exact ⟨_, rfl, h⟩
theorem call_enumT {t : Addr} {vs : Array Value} {Q : Value → Shared → Prop} (ht : s.heap.IsTuple t vs)
    (h : ∀ h', IsEnum h' (s.heap.objs.size + 1) s.heap.objs.size 0 .none → h'.IsTupleIter s.heap.objs.size t 0 → (∀ b o, s.heap.get? b = some o → h'.get? b = some o) → Q (.ref (s.heap.objs.size + 1)) { s with heap := h' }) :
    wpAny (model P w) A (call (.type "enumerate") [.ref t]) Q E s := by
  obtain ⟨⟨c, dd, dt, sl⟩, ho, hc, n, hd⟩ := ht
  simp only at hc hd
  subst hc hd
  refine callType_new F.called_enumerate (by decide) (F.typeCall_enumerate_1 _) (F.newCall_enumerate_1 _) (fun ob => F.args_object_init_2 ob _) F.entry_enumerate_new (enum_newT t vs n dd sl) ⟨ho, ?_⟩
  have z : (s.heap.push (tiO t)).objs.size = s.heap.objs.size + 1 := Heap.size_push ..
  refine (show _ ∧ _ from ?_)
  rw [z]
  have e : IsEnum ((s.heap.push (tiO t)).push (enO s.heap.objs.size)) (s.heap.objs.size + 1) s.heap.objs.size 0 .none := by
    have q := Heap.get?_push_size (s.heap.push (tiO t)) (o := enO s.heap.objs.size) rfl
    rw [z] at q
    exact q
  exact ⟨⟨_, e, rfl⟩, h _ e ⟨_, Heap.get?_push_of_some _ (Heap.get?_push_size _ rfl), rfl, rfl⟩ fun b o q => Heap.get?_push_of_some _ (Heap.get?_push_of_some _ q)⟩
end
/-- the tuple at a as it stands, each item in a new pair -/
def ItT (K : PySem.W.Frag) (a : Addr) : It :=
  ⟨fun i H => ∃ (xs : List V) (x : V), SqT K H a xs ∧ xs[i]? = some x, fun i H v H' => ∃ T x, v = .ref T ∧ H T = none ∧ H' = upd H T (.tup [.int (i : Nat), x]) ∧ ∀ xs, SqT K H a xs → xs[i]? = some x, fun i H => ∃ xs : List V, SqT K H a xs ∧ xs.length = i⟩
theorem turn_enT {P : Program} {w : World} {K : PySem.W.Frag} {elts : List Expr} {kk : Nat} {tpos : Pos} {a e it : Addr} (hae : a ≠ e) (hai : a ≠ it) :
    Turn P w K (.Tuple elts kk tpos) (ItT K a) [e, it] e fun i h => (∃ old, IsEnum h e it ((i : Nat) : Int) old) ∧ h.IsTupleIter it a i ∧ e ≠ it where
  mem := List.mem_cons_self
  obj := fun i h st b hb => by
    obtain ⟨⟨old, he⟩, ⟨o, ho, hc, hd⟩, _⟩ := st
    rcases List.mem_cons.mp hb with z | z
    · rw [z]; exact ⟨_, he, fun v q => nomatch q⟩
    · rw [List.mem_singleton.mp z]; exact ⟨o, ho, fun v q => by rw [hd] at q; cases q⟩
  keep := fun i h h' st k => by
    obtain ⟨⟨old, he⟩, hi, ne⟩ := st
    exact ⟨⟨old, k e List.mem_cons_self _ he⟩, hi.at fun o q => k it (by simp) o q, ne⟩
  item := by
    intro X hP hw hK hc i pins s σ H E I hf st hg
    subst hP hw hK
    obtain ⟨⟨old, he⟩, hit, ne⟩ := st
    obtain ⟨xs, x, hq, hx⟩ := hg
    obtain ⟨its, rv, pt, hz⟩ := I.tuple hq
    obtain ⟨u, hu, ru⟩ := rv.get hx
    have iT : s.heap.IsTuple a its.toArray := pt
    have el : e < s.heap.objs.size := Heap.lt_size he
    have il : it < s.heap.objs.size := hit.elim fun _ q => Heap.lt_size q.1
    have hi : i < its.toArray.size := by
      have := (List.getElem?_eq_some_iff.mp hu).1
      simpa using this
    refine wpAny_pyNext_enum_itemD (tupDraw (P := X.prog) (w := X.w) (A := X.A.in1) (I.ok.hd hc) it a hai its.toArray) he ⟨hit, iT⟩ hi ne (fun z => ?_) fun y h1 tk hy ho st1 hT hsz hk => ?_
    · rcases List.mem_cons.mp z with z | z
      · exact ne z
      · exact hae (List.mem_singleton.mp z).symm
    obtain rfl : y = u := by
      have hy' : its.toArray[i]? = some y := hy
      rw [List.getElem?_toArray, hu] at hy'
      exact (Option.some.inj hy').symm
    refine ⟨_, rfl, wpAny_letOwnedTupleGo_enum (s := { s with heap := h1, toks := tk + 1 }) ho fun h2 he2 sb => ?_⟩
    have hT2 : h2.get? s.heap.objs.size = some { cls := .type "tuple", data := .seq #[.int i tk, y] } := (sb.2 _ (Nat.ne_of_gt el)).trans hT
    have new : ObjOk X.prog X.w (upd H s.heap.objs.size (.tup [.int (i : Nat), x])) h2 s.heap.objs.size (.tup [.int (i : Nat), x]) :=
      ⟨by show 2 ≤ sizeLine; decide, [.int i tk, y], .cons ⟨_, rfl⟩ (.cons ru .nil), ⟨_, hT2, rfl, _, rfl⟩⟩
    have kk : ∀ b o, b ∉ [e, it] → s.heap.get? b = some o → h2.get? b = some o := fun b o nb q => by
      have n1 : b ≠ e := fun z => nb (by simp [z])
      have n2 : b ≠ it := fun z => nb (by simp [z])
      exact (sb.2 b n1).trans (hk b o n1 n2 q)
    have I1 : Inv X pins σ (upd H s.heap.objs.size (.tup [.int (i : Nat), x])) { s with heap := h2, toks := tk + 1 } := I.turnedNew (ch := [e, it]) (fun b o nb q => kk b o nb q) hf (Nat.le_refl _) new
    refine ⟨.ref s.heap.objs.size, _, I1, rfl, ⟨_, x, rfl, I.hok.fresh (Nat.le_refl _), rfl, fun ys hy => by rw [I.tuple_inj hy hq]; exact hx⟩, ⟨⟨y, ?_⟩, ?_, ne⟩, fun b hb => ?_⟩
    · have e1 : ((i + 1 : Nat) : Int) = (i : Int) + 1 := by omega
      rw [e1]; exact he2
    · exact st1.1.at fun o q => (sb.2 it (Ne.symm ne)).trans q
    · have hb' : b < s.heap.objs.size := by
        rcases List.mem_cons.mp hb with z | z
        · rw [z]; exact el
        · rw [List.mem_singleton.mp z]; exact il
      rw [upd_ne (Nat.ne_of_lt hb')]
      exact (hf b hb).1
  done := by
    intro X hP hw hK hc i pins s σ H E I hf st hg
    subst hP hw hK
    obtain ⟨⟨old, he⟩, hit, ne⟩ := st
    obtain ⟨xs, hq, rfl⟩ := hg
    obtain ⟨its, rv, pt, hz⟩ := I.tuple hq
    have iT : s.heap.IsTuple a its.toArray := pt
    obtain ⟨f0, f1, f2, f3, f4, f5⟩ := hf it (by simp)
    have hl : its.toArray.size = xs.length := by rw [List.size_toArray]; exact rv.length.symm
    have D := tupDraw (P := X.prog) (w := X.w) (A := X.A.in1) (I.ok.hd hc) it a hai its.toArray
    rw [hl] at D
    exact wpAny_pyNext_enum_endD D he ⟨hit, iT⟩ fun h' eb => ⟨rfl, I.turned (t' := s.toks) (fun b o hb q => eb b o hb q) f0 f1 f3 f4 f5⟩
  self := fun A i s Q E st h => st.1.elim fun _ he => wpAny_pyIter_enum he h
/-- enumerate(a list, or a tuple) -/
def iEn (K : PySem.W.Frag) (ta : TA) : TI := fun σ H R => ta σ H fun vs H1 => ∃ a, vs = [.ref a] ∧ (((∃ xs, SqL K H1 a xs) ∧ R (Ite K a) H1) ∨ ((∃ xs, SqT K H1 a xs) ∧ R (ItT K a) H1))
theorem pi_en {X : Cx} {e : Expr} {ta : TA} {p pos tpos : Pos} {elts : List Expr} {kk : Nat} (hg : Gl X "enumerate") (hm : X.mg "enumerate" = none) (ha : PA X [e] ta) (hs : starEach [e] X.env = [(false, eval e X.env)]) :
    PI X (.Tuple elts kk tpos) (.Call (.Name "enumerate" p) [e] [] pos) (iEn X.K ta) := by
  constructor
  intro pins s σ H R I h
  refine PyProof.Rows.Call_ (ld_blt I hg hm PyProof.Rows.boot_enumerate (PyProof.Rows.callWith_type1 (thn (ha.run pos pins s σ H _ I h) fun us s1 ⟨vs, H1, I1, r1, a, ex, q⟩ => ?_) hs rfl))
  subst ex
  cases r1 with
  | cons r rr =>
    cases rr
    cases r
    have fp : ∀ b, b ∈ [s1.heap.objs.size + 1, s1.heap.objs.size] → FpOk X pins H1 b := fun b hb => by
      have le : s1.heap.objs.size ≤ b := by
        rcases List.mem_cons.mp hb with z | z
        · rw [z]; exact Nat.le_succ _
        · rw [List.mem_singleton.mp z]; exact Nat.le_refl _
      exact I1.fpOk le (I1.hok.fresh le)
    rcases q with ⟨⟨xs, hq⟩, q⟩ | ⟨⟨xs, hq⟩, q⟩
    · obtain ⟨its, rv, pl, hz⟩ := I1.list hq
      exact call_enumerate_list pl.isList fun h' he hit hsz hk => wpAny_pyIter_enum he
        ⟨s1.heap.objs.size + 1, [s1.heap.objs.size + 1, s1.heap.objs.size], _, _, H1, rfl, I1.kept (t' := s1.toks) hk, turn_enum a (s1.heap.objs.size + 1) s1.heap.objs.size, ⟨⟨.none, he⟩, hit, Nat.succ_ne_self _⟩, fp, q⟩
    · obtain ⟨its, rv, pt, hz⟩ := I1.tuple hq
      have iT : s1.heap.IsTuple a its.toArray := pt
      have al : a < s1.heap.objs.size := iT.elim fun _ q => Heap.lt_size q.1
      exact call_enumT iT fun h' he hit hk => wpAny_pyIter_enum he
        ⟨s1.heap.objs.size + 1, [s1.heap.objs.size + 1, s1.heap.objs.size], _, _, H1, rfl, I1.kept (t' := s1.toks) hk, turn_enT (Nat.ne_of_lt (Nat.lt_succ_of_lt al)) (Nat.ne_of_lt al), ⟨⟨.none, he⟩, hit, Nat.succ_ne_self _⟩, fp, q⟩
end LL

set_option Elab.async false
set_option linter.all false
set_option maxRecDepth 100000
set_option maxHeartbeats 4000000
/-! LLq: sorted words, types asked, len of a set, by readings. -/
namespace LL
open PySem L2 PySem.Spec PyProof.Rows
section
variable {P : Program} {w : World} {A : Around} {E : Value → Shared → Prop} {s : Shared}
/-- what a list or a tuple holds, gathered -/
theorem col_seq {a : Addr} {o : Obj} {T : String} {n : Nat} {vs : List Value} {Q : List Value → Shared → Prop} (hT : T = "list" ∨ T = "tuple") (ho : s.heap.get? a = some o) (hc : o.cls = .type T) (hd : o.data = .seq vs.toArray n)
    (hz : vs.length ≤ sizeLine) (q : Q vs { s with heap := (s.heap.push (seqObj "list" #[] 0)).update s.heap.objs.size (Obj.mapSeq (· ++ vs.toArray)) }) : wpAny (model P w) A (collect (.ref a)) Q E s := by
  have at0 : (s.heap.push (seqObj "list" #[] 0)).get? s.heap.objs.size = some (seqObj "list" #[] 0) := Heap.get?_push_size _ rfl
  have ho1 : (s.heap.push (seqObj "list" #[] 0)).get? a = some o := Heap.get?_push_of_some _ ho
  unfold collect
  refine wpAny_bind (wpAny_runValue (codeAny_builtin entry_proto_collect' ?_))
  refine (show wpAny _ _ (do again (.builtin "list.__iadd__" ⟨[← newList [], .ref a], []⟩)) _ _ s from ?_)
  refine wpAny_bind (wpAny_newList (wpAny_pure ⟨Code.quiet_builtin _ (by decide +kernel), codeAny_builtin entry_list_iadd' ?_⟩))
  refine (show wpAny _ _ (Builtin.List.listExtendWith (.ref s.heap.objs.size) (.ref a) (.ref s.heap.objs.size)) _ _ { s with heap := s.heap.push (seqObj "list" #[] 0) } from ?_)
  unfold Builtin.List.listExtendWith
  refine wpAny_bind (wpAny_typeOf (T := T) ⟨o, ho1, hc⟩ ?_)
  rw [if_pos (by rcases hT with rfl | rfl <;> simp)]
  refine wpAny_bind (listItems_at ho1 hd (wpAny_bind (listItems_at (xs := #[]) (n := 0) at0 rfl ?_)))
  rw [if_neg (by simp)]
  refine wpAny_bind (listUpdate_at (xs := #[]) (n := 0) at0 rfl ?_ (Nat.zero_le _) (by refine (show (#[] ++ vs.toArray).size ≤ sizeLine + 1 from ?_); simp only [Array.size_append, List.size_toArray, List.length_nil]; omega))
  refine wpAny_pure ?_
  refine (show wpAny (model P w) A (do
      let o ← load s.heap.objs.size
      match o.data with
      | .seq xs _ => pure xs.toList
      | _ => unsupported "internal:collect") Q E { s with heap := (s.heap.push (seqObj "list" #[] 0)).update s.heap.objs.size (Obj.mapSeq (· ++ vs.toArray)) } from ?_)
  refine wpAny_bind (wpAny_load (get?_update_seq at0 _) (show wpAny _ _ (pure ((#[] : Array Value) ++ vs.toArray).toList) Q E _ from ?_))
  have e : ((#[] : Array Value) ++ vs.toArray).toList = vs := by simp
  rw [e]
  exact wpAny_pure q
/-- sorted(..) of the words of a list or tuple -/
theorem sorted_seqS {a : Addr} {o : Obj} {T : String} {n : Nat} {vs : List Value} {xs : List Str} {Q : Value → Shared → Prop} (hT : T = "list" ∨ T = "tuple") (ho : s.heap.get? a = some o) (hc : o.cls = .type T) (hd : o.data = .seq vs.toArray n)
    (hv : StrsAre vs xs) (hz : vs.length ≤ sizeLine)
    (q : ∀ (h' : Heap) (p : Addr) (us : List Value) (ys : List Str) (c : Nat), (∀ b o, s.heap.get? b = some o → h'.get? b = some o) → s.heap.objs.size ≤ p → h'.get? p = some (seqObj "list" us.toArray c) → StrsAre us ys → ys.Perm xs → sortedS ys = true → Q (.ref p) { s with heap := h' }) :
    wpAny (model P w) A (call (.builtin "sorted") [.ref a]) Q E s := by
  refine Calls.call_function_entry kind_sorted plain_sorted entry_sorted (args_sorted1 _) ?_
  unfold Builtin.«sorted»
  refine wpAny_bind (m := checkCount "sorted" 1 1 _) (wpAny_pure ?_)
  refine wpAny_bind (col_seq hT ho hc hd hz (wpAny_bind (wpAny_newList ?_ (by simpa using hz))))
  have z1 : ((s.heap.push (seqObj "list" #[] 0)).update s.heap.objs.size (Obj.mapSeq (· ++ vs.toArray))).objs.size = s.heap.objs.size + 1 := by
    rw [Heap.size_update, size_push']
  have k1 : ∀ b o, s.heap.get? b = some o → ((s.heap.push (seqObj "list" #[] 0)).update s.heap.objs.size (Obj.mapSeq (· ++ vs.toArray))).get? b = some o := fun b u e => by
    rw [Heap.get?_update_ne _ _ _ _ (Nat.ne_of_lt (Heap.lt_size e))]
    exact Heap.get?_push_of_some _ e
  generalize (s.heap.push (seqObj "list" #[] 0)).update s.heap.objs.size (Obj.mapSeq (· ++ vs.toArray)) = h1 at z1 k1 ⊢
  have oL : (h1.push (seqObj "list" vs.toArray 0)).get? h1.objs.size = some (seqObj "list" vs.toArray 0) := Heap.get?_push_size _ rfl
  refine wpAny_bind (wpAny_holding (wpAny_call_entry slot_list_sort ⟨_, oL, rfl⟩ entry_list_sort (list_sort_treeKAny strKind_oneLt oL hv.keysOf (fun v1 v2 r e => keyKind_strs (by rw [← e]; exact hv)) hz fun st' p1 p2 => ⟨_, rfl, ?_⟩) (args_list_sort _)))
  obtain ⟨ys, h3, h4, h5⟩ := sorted_out_str hv p1 p2
  obtain ⟨c, hc'⟩ := sortedHeap_at (vs := vs) (out := (arrOf st').map (·.2)) oL
  refine wpAny_pure ⟨_, rfl, q _ h1.objs.size ((arrOf st').map (·.2)).toList ys c (fun b u e => ?_) (by rw [z1]; exact Nat.le_succ _) hc' h3 h4 h5⟩
  have e1 := k1 b u e
  have lt := Heap.lt_size e1
  refine (sortedHeap_old (Nat.ne_of_lt lt) ?_).trans (Heap.get?_push_of_some _ e1)
  rw [size_push']
  exact Nat.lt_succ_of_lt lt
end
section
variable {X : Cx}
/-- sorted(xs), words -/
def rSortW (K : PySem.W.Frag) : List V → Hp → VK → Prop := fun vs H Q => ∃ (a : Addr) (xs : List Str), vs = [V.ref a] ∧ (SqL K H a (xs.map V.str) ∨ SqT K H a (xs.map V.str)) ∧
  ∀ (ys : List Str) (p : Addr), ys.Perm xs → sortedS ys = true → H p = none → xs.length ≤ sizeLine → Q (.ref p) (upd H p (.lst (ys.map V.str)))
theorem cr_sortW : CallR X (.builtin "sorted") (rSortW X.K) := by
  intro pins s σ H vs us Q I r h
  obtain ⟨a, xs, rfl, hs, q⟩ := h
  rw [Vals.ref1 r]
  have go : ∀ {its : List Value} {T : String} {o : Obj} {n : Nat}, T = "list" ∨ T = "tuple" → s.heap.get? a = some o → o.cls = .type T → o.data = .seq its.toArray n → Vals (xs.map V.str) its → its.length ≤ sizeLine →
      wpAny (model X.prog X.w) X.A (call (.builtin "sorted") [.ref a]) (EP X pins σ Q) X.xe s := fun {its T o n} hT ho hc hd rv hz => by
    refine sorted_seqS hT ho hc hd (strsAre_of rv) hz fun h' p us ys c hk hp ha h1 h2 h3 => ?_
    have z : xs.length ≤ sizeLine := by have := rv.length; rw [List.length_map] at this; omega
    have z2 : (ys.map V.str).length ≤ sizeLine := by rw [List.length_map, h2.length_eq]; exact z
    exact ⟨.ref p, upd H p (.lst (ys.map V.str)), I.laid (t' := s.toks) hk hp ⟨z2, us, c, vals_of_strs h1, ha⟩, rfl, q ys p h2 h3 (I.hok.fresh hp) z⟩
  rcases hs with hs | hs
  · obtain ⟨its, rv, pl, hz⟩ := I.list hs
    obtain ⟨o, ho, hc, n, hd⟩ := pl.isList
    exact go (.inl rfl) ho hc hd rv (by rw [← rv.length]; exact hz)
  · obtain ⟨its, rv, pt, hz⟩ := I.tuple hs
    obtain ⟨o, ho, hc, n, hd⟩ := pt
    exact go (.inr rfl) ho hc hd rv (by rw [← rv.length]; exact hz)
/-- len(set(t)), t a tuple of words -/
def tLenW (K : PySem.W.Frag) (te : TE) : TE := fun σ H Q => te σ H fun x H1 => ∃ (l : Addr) (xs : List Str), x = .ref l ∧ SqT K H1 l (xs.map V.str) ∧ xs.length + 1 < scanBound ∧ Q (.int (news xs xs.length : Nat)) H1
theorem pe_lenW {e : Expr} {te : TE} {p1 p2 q1 pos : Pos} (hc : X.calm = true) (g1 : Gl X "len") (m1 : X.mg "len" = none) (g2 : Gl X "set") (m2 : X.mg "set" = none) (he : PE X e te) (ns : starEach [e] X.env = (false, eval e X.env) :: starEach [] X.env) :
    PE X (.Call (.Name "len" p1) [.Call (.Name "set" p2) [e] [] q1] [] pos) (tLenW X.K te) := by
  constructor
  intro pins s σ H Q I h
  refine PyProof.Rows.Call_ (ld_blt I g1 m1 boot_len (PyProof.Rows.callWith_builtin1 (PyProof.Rows.args_cons ?_ rfl) rfl rfl))
  refine PyProof.Rows.Call_ (ld_blt I g2 m2 boot_set (PyProof.Rows.callWith_type1 (PyProof.Rows.args_cons (thn (he.run pins s σ H _ I h) fun v s1 ⟨x, H1, I1, r1, q1⟩ => PyProof.Rows.args_nil ?_) ns) ns rfl))
  obtain ⟨l, xs, rfl, hq, hb, q⟩ := q1
  cases r1
  obtain ⟨its, rv, pt, hz⟩ := I1.tuple hq
  refine set_tup (I1.ok.hd hc) (show s1.heap.IsTuple l its.toArray from pt) (by simpa using strsAre_of rv) hb fun h' tk hs hk => PyProof.Rows.args_nil ?_
  obtain ⟨o, es, ep, t, ho, hex, hd, _, _, hz2, hf, hn⟩ := hs
  have I2 : Inv X pins σ H1 { s1 with heap := h', toks := tk } := I1.kept fun b o e => hk b o e
  exact call_len_set ho hex hd hf (by have : scanBound = 4096 := rfl; omega) ⟨.int (news xs xs.length : Nat), H1, I2.tok _, ⟨_, by rw [hn]⟩, q⟩
/-- a built-in type by its name -/
theorem pe_tyName {x : Str} {n : String} {p : Pos} (hg : Gl X x) (hm : X.mg x = none) (hv : bootBuiltins x = some (.type n)) (hn : x ≠ "__name__") (hd : (x == ("__debug__" : Str)) = false) : PE X (.Name x p) (tC (.ty n)) :=
  ⟨fun pins s σ H Q I h => ld_blt I hg hm hv ⟨.ty n, H, I, rfl, h⟩ hn hd⟩
end
end LL

set_option Elab.async false
set_option linter.all false
set_option maxRecDepth 100000
set_option maxHeartbeats 2000000
/-! LLb: the small language and its interpreter. -/
namespace LL
open PySem L2

inductive RV where
  | v (w : W) | f (ws : List W)
def RV.w : RV → W
  | .v w => w
  | .f ws => .lst ws
inductive OV where
  | v (w : W) | b (i : Nat)
abbrev Flds := List (Str × W)
inductive R (α : Type) where
  | ok (a : α) (st : ST) | exn (c : Nat) (fs : Flds) (st : ST) | bad
def R.bind {α β : Type} (r : R α) (g : α → ST → R β) : R β := match r with
  | .ok a st => g a st
  | .exn c fs st => .exn c fs st
  | .bad => .bad
inductive RC where
  | ok (r : RV) (S : List SO) | exn (c : Nat) (fs : Flds) (S : List SO) | bad
abbrev CT := Nat → List W → List SO → RC

inductive Op2 where
  | add | sub | mul | fdiv | mod | pow
inductive Cp where
  | eq | ne | lt | le | gt | ge | isN | notN | inn | nin
inductive TgI where
  | nm (i : Nat) | tp (l : List Nat)
/-- built-in functions -/
inductive Bf where
  | len | int | tuple | list | sorted
/-- types that are asked for -/
inductive Tn where
  | tuple | list | str | int | bool
mutual
inductive IE where
  | var (i : Nat)
  | non | bl (b : Bool) | int (i : Int) | str (s : Str)
  | tup (a : IA) | lst (a : IA)
  | bin (o : Op2) (a b : IE)
  | cmp (o : Cp) (a b : IE)
  | andE (a b : IE) | orE (a b : IE) | notE (a : IE) | ifE (c a b : IE)
  | idx (a b : IE)
  | sfrom (a lo : IE) | upto (a hi : IE) | cut (a lo hi : IE) | rev (a : IE)
  | call (f : Nat) (a : IA)
  | blt (f : Bf) (a : IA)
  | pop (i : Nat) (e : IE)
  | setLen (e : IE) | isT (e : IE) (t : Tn)
  | comp (elt : IE) (g : TgI) (src : SI) (cond : IE) (has : Bool)
inductive IA where
  | nil | cons (e : IE) (r : IA)
inductive SI where
  | seq (e : IE) | rng (e : IE) | enm (e : IE)
end

/-! ### values -/
mutual
def weq : W → W → Bool
  | .non, .non => true
  | .bl a, .bl b => a == b
  | .bl a, .int j => (if a then 1 else 0) == j
  | .int i, .bl b => i == (if b then 1 else 0)
  | .int i, .int j => i == j
  | .str x, .str y => x == y
  | .tup xs, .tup ys => weqs xs ys
  | .lst xs, .lst ys => weqs xs ys
  | _, _ => false
def weqs : List W → List W → Bool
  | [], [] => true
  | x :: xs, y :: ys => weq x y && weqs xs ys
  | _, _ => false
end
mutual
/-- data of depth at most n, no references -/
def okd : Nat → W → Bool
  | _, .non => true
  | _, .bl _ => true
  | _, .int _ => true
  | _, .str _ => true
  | 0, .tup _ => false
  | 0, .lst _ => false
  | n + 1, .tup xs => okds n xs
  | n + 1, .lst xs => okds n xs
  | _, .ref _ => false
  | _, .scr _ => false
def okds : Nat → List W → Bool
  | _, [] => true
  | n, x :: xs => okd n x && okds n xs
end
def flatW : W → Bool
  | .non => true
  | .bl _ => true
  | .int _ => true
  | .str _ => true
  | _ => false
def szOk (n : Nat) : Bool := decide (n ≤ sizeLine)
def truth : W → Option Bool
  | .non => some false
  | .bl b => some b
  | .int i => some (i != 0)
  | .tup xs => some (!xs.isEmpty)
  | .lst xs => some (!xs.isEmpty)
  | _ => none
def mulOk (i j : Int) : Bool := (decide (-(2 ^ 64) < i) && decide (i < 2 ^ 64)) || (decide (-(2 ^ 64) < j) && decide (j < 2 ^ 64))
def op2 : Op2 → W → W → Option RV
  | .add, .int i, .int j => some (.v (.int (i + j)))
  | .add, .tup xs, .tup ys => if szOk (xs.length + ys.length) then some (.v (.tup (xs ++ ys))) else none
  | .add, .lst xs, .lst ys => if szOk (xs.length + ys.length) then some (.f (xs ++ ys)) else none
  | .sub, .int i, .int j => some (.v (.int (i - j)))
  | .mul, .int i, .int j => if mulOk i j then some (.v (.int (i * j))) else none
  | .fdiv, .int i, .int j => if decide (0 < j) && decide (j < 1073741824) then some (.v (.int (i / j))) else none
  | .mod, .int i, .int j => if decide (0 < j) then some (.v (.int (i % j))) else none
  | .pow, .int i, .int j => if decide (0 ≤ j) && decide (j ≤ 1000000) && decide (i.natAbs < 2 ^ 64) then some (.v (.int (i ^ j.toNat))) else none
  | _, _, _ => none
def isNonW : W → Bool
  | .non => true
  | _ => false
def items : W → Option (List W)
  | .tup xs => some xs
  | .lst xs => some xs
  | _ => none
def cmp2 : Cp → W → W → Option Bool
  | .eq, x, y => if okd 60 x && okd 60 y then some (weq x y) else none
  | .ne, x, y => if okd 60 x && okd 60 y then some (!weq x y) else none
  | .lt, .int i, .int j => some (decide (i < j))
  | .le, .int i, .int j => some (decide (i ≤ j))
  | .gt, .int i, .int j => some (decide (j < i))
  | .ge, .int i, .int j => some (decide (j ≤ i))
  | .isN, x, .non => some (isNonW x)
  | .notN, x, .non => some (!isNonW x)
  | .inn, x, y => (items y).bind fun xs => if flatW x && xs.all flatW then some (xs.any fun y => weq y x) else none
  | .nin, x, y => (items y).bind fun xs => if flatW x && xs.all flatW then some (!xs.any fun y => weq y x) else none
  | _, _, _ => none
def idx2 : W → W → Option W
  | .tup xs, .int i => atI xs i
  | .lst xs, .int i => atI xs i
  | .scr ns, .int i => (atI ns i).map .int
  | _, _ => none
def cutW (xs : List W) (lo hi : Option Int) : List W := (xs.drop (HT.sIx xs.length 0 lo)).take (HT.sIx xs.length xs.length hi - HT.sIx xs.length 0 lo)
def slc2 (lo hi : Option Int) : W → Option RV
  | .tup xs => some (.v (.tup (cutW xs lo hi)))
  | .lst xs => some (.f (cutW xs lo hi))
  | _ => none
/-- all words -/
def strsW : List W → Option (List Str)
  | [] => some []
  | .str x :: r => (strsW r).map (x :: ·)
  | _ :: _ => none
def srtS (xs : List Str) : List Str := xs.mergeSort fun a b => !PySem.Spec.ltCps b.cps.toList a.cps.toList
def isTn : W → Tn → Bool
  | .tup _, .tuple => true
  | .lst _, .list => true
  | .ref _, .list => true
  | .scr _, .list => true
  | .str _, .str => true
  | .int _, .int => true
  | .bl _, .int => true
  | .bl _, .bool => true
  | _, _ => false
def toI : W → Option Int
  | .int i => some i
  | _ => none
/-- built-in functions, by values -/
def blt1 : Bf → List W → Option RV
  | .len, [.tup xs] => some (.v (.int xs.length))
  | .len, [.lst xs] => some (.v (.int xs.length))
  | .len, [.scr ns] => some (.v (.int ns.length))
  | .int, [.int i] => some (.v (.int i))
  | .tuple, [.tup xs] => some (.v (.tup xs))
  | .tuple, [.lst xs] => some (.v (.tup xs))
  | .list, [.tup xs] => some (.f xs)
  | .list, [.lst xs] => some (.f xs)
  | .sorted, [x] => (items x).bind fun xs => (strsW xs).map fun ys => .f ((srtS ys).map .str)
  | _, _ => none

def deref (o : OV) (env : Env') : Option W := match o with
  | .v w => some w
  | .b i => match env[i]? with
    | some (some (.val w)) => some w
    | some (some (.own ws)) => some (.lst ws)
    | _ => none
def opd (a : IE) (r : ST → R RV) (st : ST) : R OV := match a with
  | .var i => match st.env[i]? with
    | some (some _) => .ok (.b i) st
    | _ => .bad
  | _ => (r st).bind fun v st => .ok (.v v.w) st
/-- a list of the store, as it stands -/
def vw (S : List SO) : W → W
  | .ref n => match S[n]? with
    | some (.lst ws) => .lst ws
    | none => .ref n
  | w => w
def derefV (o : OV) (st : ST) : Option W := (deref o st.env).map (vw st.sto)
def un1 (f : W → Option RV) (o : R OV) : R RV := o.bind fun x st => match (derefV x st).bind f with
  | some r => .ok r st
  | none => .bad
def vB (o : Option Bool) : Option RV := o.map fun b => .v (.bl b)
def bin1 (f : W → W → Option RV) (oa : ST → R OV) (ob : ST → R OV) (st : ST) : R RV :=
  (oa st).bind fun x st => (ob st).bind fun y st => match derefV x st, derefV y st with
    | some v, some w => match f v w with
      | some r => .ok r st
      | none => .bad
    | _, _ => .bad
def cut1 (oa ob oc : ST → R OV) (st : ST) : R RV :=
  (oa st).bind fun x st => (ob st).bind fun y st => match (derefV y st).bind toI with
    | some i => (oc st).bind fun z st => (match derefV x st, (derefV z st).bind toI with
      | some v, some j => match slc2 (some i) (some j) v with
        | some r => .ok r st
        | none => .bad
      | _, _ => .bad)
    | none => .bad
def tst (o : R OV) : R Bool := o.bind fun x st => match (derefV x st).bind truth with
  | some b => .ok b st
  | none => .bad
def derefs (st : ST) : List OV → Option (List W)
  | [] => some []
  | o :: r => (derefV o st).bind fun w => (derefs st r).map (w :: ·)
def setT (g : TgI) (w : W) (env : Env') : Option Env' := match g with
  | .nm i => some (env.set i (some (.val w)))
  | .tp [i, j] => match w with
    | .tup [a, b] => some ((env.set i (some (.val a))).set j (some (.val b)))
    | _ => none
  | _ => none
def TgI.vars : TgI → List Nat
  | .nm i => [i]
  | .tp l => l
def wipeE (vs : List Nat) (env : Env') : Env' := match vs with
  | [] => env
  | v :: vs => (wipeE vs env).set v none
def keepV : Option (Option Sl) → Option Sl
  | some (some (.val w)) => some (.val w)
  | _ => none
def restE (vs : List Nat) (e0 e1 : Env') : Env' := match vs with
  | [] => e1
  | v :: vs => (restE vs e0 e1).set v (keepV e0[v]?)
def compL (step : W → ST → R (Option W)) : List W → ST → R (List W)
  | [], st => .ok [] st
  | x :: xs, st => (step x st).bind fun o st => (compL step xs st).bind fun ws st => .ok (o.toList ++ ws) st
/-- one turn of a comprehension -/
def cStep (tc : ST → R Bool) (te : ST → R RV) (g : TgI) (has : Bool) (x : W) (st : ST) : R (Option W) := match setT g x (wipeE g.vars st.env) with
  | none => .bad
  | some env' => if has then (tc { st with env := env' }).bind fun b st => if b then (te st).bind (fun r st => .ok (some r.w) st) else .ok none st
    else (te { st with env := env' }).bind (fun r st => .ok (some r.w) st)
def enumW : Nat → List W → List W
  | _, [] => []
  | n, x :: xs => .tup [.int n, x] :: enumW (n + 1) xs
def rngW (j : Int) : List W := (List.range j.toNat).map fun k => .int (k : Nat)
def rngOk (j : Int) : Bool := decide (-(2 ^ 62) ≤ j) && decide (j < 2 ^ 62) && szOk j.toNat
def noExn {α : Type} : R α → R α
  | .exn _ _ _ => .bad
  | r => r

section
variable (C : CT)
structure EB where
  v : ST → R RV
  t : ST → R Bool
/-- both readings from the value's -/
def EB.of (e : IE) (r : ST → R RV) : EB := ⟨r, fun st => tst (opd e r st)⟩
mutual
def evB : IE → EB
  | .var i => EB.of (.var i) fun st => match st.env[i]? with
    | some (some (.val w)) => .ok (.v w) st
    | some (some (.own ws)) => .ok (.v (.lst ws)) { st with env := st.env.set i (some (.val (.lst ws))) }
    | _ => .bad
  | .non => EB.of .non fun st => .ok (.v .non) st
  | .bl b => EB.of (.bl b) fun st => .ok (.v (.bl b)) st
  | .int i => EB.of (.int i) fun st => .ok (.v (.int i)) st
  | .str s => EB.of (.str s) fun st => .ok (.v (.str s)) st
  | .tup a => EB.of (.tup a) fun st => (evA a st).bind fun ws st => if szOk ws.length then .ok (.v (.tup ws)) st else .bad
  | .lst a => EB.of (.lst a) fun st => (evA a st).bind fun ws st => if szOk ws.length then .ok (.f ws) st else .bad
  | .bin o a b => EB.of (.bin o a b) (bin1 (op2 o) (opd a (evB a).v) (opd b (evB b).v))
  | .cmp o a b => EB.of (.cmp o a b) (bin1 (fun v w => vB (cmp2 o v w)) (opd a (evB a).v) (opd b (evB b).v))
  | .andE a b => ⟨fun st => ((evB a).v st).bind fun r st => match r with
      | .v (.bl true) => (evB b).v st
      | .v (.bl false) => .ok (.v (.bl false)) st
      | _ => .bad, fun st => ((evB a).t st).bind fun c st => if c then (evB b).t st else .ok false st⟩
  | .orE a b => ⟨fun st => ((evB a).v st).bind fun r st => match r with
      | .v (.bl true) => .ok (.v (.bl true)) st
      | .v (.bl false) => (evB b).v st
      | _ => .bad, fun st => ((evB a).t st).bind fun c st => if c then .ok true st else (evB b).t st⟩
  | .notE a => ⟨fun st => ((evB a).v st).bind fun r st => match r with
      | .v (.bl c) => .ok (.v (.bl (!c))) st
      | _ => .bad, fun st => ((evB a).t st).bind fun c st => .ok (!c) st⟩
  | .ifE c a b => EB.of (.ifE c a b) fun st => ((evB c).t st).bind fun k st => if k then ((evB a).v st).bind (fun r st => .ok (.v r.w) st) else ((evB b).v st).bind (fun r st => .ok (.v r.w) st)
  | .idx a b => EB.of (.idx a b) (bin1 (fun v w => (idx2 v w).map .v) (opd a (evB a).v) (opd b (evB b).v))
  | .sfrom a lo => EB.of (.sfrom a lo) (bin1 (fun v w => (toI w).bind fun i => slc2 (some i) none v) (opd a (evB a).v) (opd lo (evB lo).v))
  | .upto a hi => EB.of (.upto a hi) (bin1 (fun v w => (toI w).bind fun i => slc2 none (some i) v) (opd a (evB a).v) (opd hi (evB hi).v))
  | .cut a lo hi => EB.of (.cut a lo hi) (cut1 (opd a (evB a).v) (opd lo (evB lo).v) (opd hi (evB hi).v))
  | .rev a => EB.of (.rev a) fun st => un1 (fun v => match v with | .lst xs => some (.f xs.reverse) | _ => none) (opd a (evB a).v st)
  | .call f a => EB.of (.call f a) fun st => (evA a st).bind fun ws st => match C f ws st.sto with
    | .ok r S => .ok r { st with sto := S }
    | .exn c fs S => .exn c fs { st with sto := S }
    | .bad => .bad
  | .blt f a => EB.of (.blt f a) fun st => (evO a st).bind fun os st => match (derefs st os).bind (blt1 f) with
    | some r => .ok r st
    | none => .bad
  | .pop i e => EB.of (.pop i e) fun st => match st.env[i]? with
    | some (some (.own _)) => ((evB e).v st).bind fun k st => (match k.w, st.env[i]? with
      | .int j, some (some (.own ws)) => (match ixN ws.length j with
        | some n => match ws[n]? with
          | some w => .ok (.v w) { st with env := st.env.set i (some (.own (ws.eraseIdx n))) }
          | none => .bad
        | none => .bad)
      | _, _ => .bad)
    | _ => .bad
  | .setLen e => EB.of (.setLen e) fun st => un1 (fun v => match v with
    | .tup xs => (strsW xs).bind fun ys => if decide (ys.length + 1 < scanBound) then some (.v (.int (news ys ys.length : Nat))) else none
    | _ => none) (opd e (evB e).v st)
  | .isT e t => EB.of (.isT e t) fun st => un1 (fun v => some (.v (.bl (isTn v t)))) (opd e (evB e).v st)
  | .comp elt g src cond has => EB.of (.comp elt g src cond has) fun st => (evI src st).bind fun xs st0 =>
    match compL (cStep (evB cond).t (evB elt).v g has) xs st0 with
      | .ok ws st1 => .ok (.f ws) { st1 with env := restE g.vars st0.env st1.env }
      | _ => .bad
def evA : IA → ST → R (List W)
  | .nil, st => .ok [] st
  | .cons e r, st => ((evB e).v st).bind fun x st => (evA r st).bind fun xs st => .ok (x.w :: xs) st
def evO : IA → ST → R (List OV)
  | .nil, st => .ok [] st
  | .cons e r, st => (opd e (evB e).v st).bind fun x st => (evO r st).bind fun xs st => .ok (x :: xs) st
def evI : SI → ST → R (List W)
  | .seq e, st => ((evB e).v st).bind fun r st => match items r.w with
    | some xs => .ok xs st
    | none => .bad
  | .rng e, st => ((evB e).v st).bind fun r st => match r.w with
    | .int j => if rngOk j then .ok (rngW j) st else .bad
    | _ => .bad
  | .enm e, st => ((evB e).v st).bind fun r st => match items r.w with
    | some xs => .ok (enumW 0 xs) st
    | none => .bad
end
def ev (e : IE) (st : ST) : R RV := (evB C e).v st
def evT (e : IE) (st : ST) : R Bool := (evB C e).t st
end

/-! ### statements -/
mutual
inductive IS where
  | asg (i : Nat) (e : IE) | asgR (i : Nat) (e : IE) | unp (l : List Nat) (e : IE) | par (i j : Nat) (a b : IE)
  | setI (o k e : IE) | app (i : Nat) (e : IE) | ex (e : IE)
  | ifS (c : IE) (a b : IB) | whl (c : IE) (b : IB) | forS (g : TgI) (s : SI) (b : IB)
  | ret (e : IE) | retN | pass | brk | cnt | nvr
inductive IB where
  | nil | cons (s : IS) (r : IB)
end
inductive RS where
  | nx (st : ST) | brk (st : ST) | cnt (st : ST) | ret (r : RV) (S : List SO) | exn (c : Nat) (fs : Flds) (st : ST) | bad
def RS.of {α : Type} (r : R α) (g : α → ST → RS) : RS := match r with
  | .ok a st => g a st
  | .exn c fs st => .exn c fs st
  | .bad => .bad
def RS.then (r : RS) (g : ST → RS) : RS := match r with
  | .nx st => g st
  | r => r
def slOf : RV → Sl
  | .v w => .val w
  | .f ws => .own ws
def forL (step : W → ST → RS) : List W → ST → RS
  | [], st => .nx st
  | x :: xs, st => match step x st with
    | .nx st => forL step xs st
    | .cnt st => forL step xs st
    | .brk st => .nx st
    | r => r
def whileL (c : ST → R Bool) (b : ST → RS) : Nat → ST → RS
  | 0, _ => .bad
  | n + 1, st => RS.of (c st) fun k st => if k then (match b st with
      | .nx st => whileL c b n st
      | .cnt st => whileL c b n st
      | .brk st => .nx st
      | r => r) else .nx st
def FU : Nat := 1000000
section
variable (C : CT)
mutual
def evS : IS → ST → RS
  | .asg i e, st => RS.of (ev C e st) fun r st => .nx { st with env := st.env.set i (some (slOf r)) }
  | .asgR i e, st => RS.of (ev C e st) fun r st => match r with
    | .f ws => .nx { env := st.env.set i (some (.val (.ref st.sto.length))), sto := st.sto ++ [.lst ws] }
    | _ => .bad
  | .unp l e, st => RS.of (ev C e st) fun r st => match setT (.tp l) r.w st.env with
    | some env => .nx { st with env := env }
    | none => .bad
  | .par i j a b, st => RS.of (ev C a st) fun r st => RS.of (ev C b st) fun q st => .nx { st with env := (st.env.set i (some (slOf r))).set j (some (slOf q)) }
  | .setI o k e, st => RS.of (ev C e st) fun r st => RS.of (opd o (ev C o) st) fun x st => RS.of (opd k (ev C k) st) fun y st => match deref x st.env, deref y st.env with
    | some (.ref n), some (.int j) => (match st.sto[n]? with
      | some (.lst ws) => (match ixN ws.length j with
        | some q => .nx { st with sto := st.sto.set n (.lst (ws.set q r.w)) }
        | none => .bad)
      | none => .bad)
    | _, _ => .bad
  | .app i e, st => match st.env[i]? with
    | some (some (.own _)) => RS.of (ev C e st) fun r st => (match st.env[i]? with
      | some (some (.own ws)) => if szOk (ws.length + 1) then .nx { st with env := st.env.set i (some (.own (ws ++ [r.w]))) } else .bad
      | _ => .bad)
    | some (some (.val (.ref _))) => RS.of (ev C e st) fun r st => (match st.env[i]? with
      | some (some (.val (.ref n))) => (match st.sto[n]? with
        | some (.lst ws) => if szOk (ws.length + 1) then .nx { st with sto := st.sto.set n (.lst (ws ++ [r.w])) } else .bad
        | none => .bad)
      | _ => .bad)
    | _ => .bad
  | .ex e, st => RS.of (ev C e st) fun _ st => .nx st
  | .ifS c a b, st => RS.of (evT C c st) fun k st => if k then evSs a st else evSs b st
  | .whl c b, st => whileL (evT C c) (evSs b) FU st
  | .forS g s b, st => RS.of (evI C s st) fun xs st => forL (fun x st => match setT g x st.env with
      | some env => evSs b { st with env := env }
      | none => .bad) xs st
  | .ret e, st => match e with
    | .var i => (match st.env[i]? with
      | some (some (.own ws)) => .ret (.f ws) st.sto
      | some (some (.val w)) => .ret (.v w) st.sto
      | _ => .bad)
    | e => RS.of (ev C e st) fun r st => .ret r st.sto
  | .retN, st => .ret (.v .non) st.sto
  | .pass, st => .nx st
  | .brk, st => .brk st
  | .cnt, st => .cnt st
  | .nvr, _ => .bad
def evSs : IB → ST → RS
  | .nil, st => .nx st
  | .cons s r, st => (evS s st).then (evSs r)
end
end
structure FnI where
  np : Nat
  ns : Nat
  body : IB
def RC.fin : RS → RC
  | .nx st => .ok (.v .non) st.sto
  | .ret r S => .ok r S
  | .exn c fs st => .exn c fs st.sto
  | _ => .bad
def entryE (n : Nat) (ws : List W) : Env' := ws.map (fun w => some (.val w)) ++ List.replicate (n - ws.length) none
def callN (T : List FnI) : Nat → CT
  | 0 => fun _ _ _ => .bad
  | k + 1 => fun f ws S => match T[f]? with
    | none => .bad
    | some fn => if ws.length == fn.np then RC.fin (evSs (callN T k) fn.body ⟨entryE fn.ns ws, S⟩) else .bad
end LL

set_option Elab.async false
set_option linter.all false
/-! LLr: words in order. -/
namespace LL
open PySem L2
def leS (a b : Str) : Bool := !PySem.Spec.ltCps b.cps.toList a.cps.toList
theorem leS_iff {a b : Str} : leS a b = true ↔ a.cps.toList ≤ b.cps.toList := by
  unfold leS
  rw [PyProof.Rows.ltCps_eq]
  simp
theorem leS_trans (a b c : Str) (h1 : leS a b = true) (h2 : leS b c = true) : leS a c = true := leS_iff.mpr (List.le_trans (leS_iff.mp h1) (leS_iff.mp h2))
theorem leS_total (a b : Str) : (leS a b || leS b a) = true := by
  rw [Bool.or_eq_true, leS_iff, leS_iff]
  exact List.le_total _ _
theorem leS_anti {a b : Str} (h1 : leS a b = true) (h2 : leS b a = true) : a = b := by
  have := List.le_antisymm (leS_iff.mp h1) (leS_iff.mp h2)
  exact PySem.Str.ext' (Array.toList_inj.mp this)
theorem srt_pw (xs : List Str) : (srtS xs).Pairwise fun a b => leS a b = true := List.pairwise_mergeSort (le := leS) leS_trans leS_total xs
theorem srt_perm (xs : List Str) : (srtS xs).Perm xs := List.mergeSort_perm xs leS
theorem rising_pw : ∀ (r : List Str) (x : Str), PyProof.Rows.risingS x r = true → (x :: r).Pairwise fun a b => leS a b = true
  | [], x, _ => by simp
  | y :: r, x, h => by
    unfold PyProof.Rows.risingS at h
    rw [Bool.and_eq_true] at h
    have ih := rising_pw r y h.2
    refine List.pairwise_cons.mpr ⟨fun z hz => ?_, ih⟩
    rcases List.mem_cons.mp hz with q | q
    · rw [q]; exact h.1
    · exact leS_trans x y z h.1 (List.rel_of_pairwise_cons ih q)
theorem sorted_pw : ∀ {ys : List Str}, PyProof.Rows.sortedS ys = true → ys.Pairwise fun a b => leS a b = true
  | [], _ => .nil
  | x :: r, h => rising_pw r x h
theorem srt_uniq {xs ys : List Str} (hp : ys.Perm xs) (hs : ys.Pairwise fun a b => leS a b = true) : ys = srtS xs :=
  List.Perm.eq_of_pairwise (fun a b _ _ h1 h2 => leS_anti h1 h2) hs (srt_pw xs) (hp.trans (srt_perm xs).symm)
theorem srt_eq {xs ys : List Str} : srtS xs = srtS ys ↔ xs.Perm ys :=
  ⟨fun h => (srt_perm xs).symm.trans (h ▸ srt_perm ys), fun h => srt_uniq ((srt_perm xs).trans h) (srt_pw xs)⟩
end LL

set_option Elab.async false
set_option linter.all false
set_option maxRecDepth 100000
set_option maxHeartbeats 2000000
/-! LLc: the readings of the interpreter, and how they follow one another. -/
namespace LL
open PySem L2

/-- one evaluation's step: the heap went on, no slot became an owner -/
structure Step (φ : List Addr) (st : ST) (σ : St) (H : Hp) (φ' : List Addr) (st' : ST) (H' : Hp) : Prop where
  ext : Ext φ (OE st.env σ) H φ' H'
  own : ∀ a, OE st'.env σ a → OE st.env σ a
theorem Step.refl {φ st σ H} : Step φ st σ H φ st H := ⟨.refl, fun _ h => h⟩
theorem Step.trans {φ st σ H φ1 st1 H1 φ2 st2 H2} (a : Step φ st σ H φ1 st1 H1) (b : Step φ1 st1 σ H1 φ2 st2 H2) : Step φ st σ H φ2 st2 H2 :=
  ⟨a.ext.trans b.ext a.own, fun x h => a.own x (b.own x h)⟩
theorem Step.rep {K φ Z st σ H φ' st' H' w v} (s : Step φ st σ H φ' st' H') (h : Rep K φ (AV Z st.env σ) H w v) : Rep K φ' (AV Z st'.env σ) H' w v :=
  (h.ext s.ext fun _ z => .inr z).anti fun a z => z.elim .inl fun q => .inr (s.own a q)
theorem Step.reps {K φ Z st σ H φ' st' H' ws vs} (s : Step φ st σ H φ' st' H') (h : Reps K φ (AV Z st.env σ) H ws vs) : Reps K φ' (AV Z st'.env σ) H' ws vs :=
  (h.ext s.ext fun _ z => .inr z).anti fun a z => z.elim .inl fun q => .inr (s.own a q)

/-- what stood stands -/
def Dm (B H : Hp) : Prop := ∀ a o, B a = some o → ∃ o', H a = some o'
theorem Dm.none {B H : Hp} (d : Dm B H) {a : Addr} (h : H a = none) : B a = none := by
  cases q : B a with
  | none => rfl
  | some o =>
    obtain ⟨o', z⟩ := d a o q
    rw [h] at z; cases z
/-- a result: a value, or a list that nobody else knows and that was not there at the beginning (B) -/
def RRep (K : PySem.W.Frag) (B : Hp) (φ : List Addr) (Z : Addr → Prop) (st : ST) (σ : St) (H : Hp) : RV → V → Prop
  | .v w, v => Rel K φ Z st σ H ∧ Rep K φ (AV Z st.env σ) H w v
  | .f ws, v => ∃ p vs, v = .ref p ∧ B p = none ∧ p ∉ φ ∧ ¬ AV Z st.env σ p ∧ H p = some (.lst vs) ∧ vs.length ≤ sizeLine ∧ Rel K φ (fun a => Z a ∨ a = p) st σ H ∧ Reps K φ (AV (fun a => Z a ∨ a = p) st.env σ) H ws vs
/-- what an exception carries -/
def ExnR (K : PySem.W.Frag) (ce : Nat → Option Addr) (φ : List Addr) (A : Addr → Prop) (H : Hp) (c : Nat) (fs : Flds) (cls : Value) (d : Option Addr) : Prop :=
  (∃ C, ce c = some C ∧ cls = .ref C) ∧ ∀ f w, fs.lookup f = some w → ∃ dd xs v, d = some dd ∧ H dd = some (.xd xs) ∧ dd ∉ φ ∧ ¬ A dd ∧ xs.lookup f = some v ∧ Rep K φ A H w v
/-- an operand -/
def OVr (K : PySem.W.Frag) (φ : List Addr) (A : Addr → Prop) (H : Hp) (σ : St) : OV → V → Prop
  | .v w, v => Rep K φ A H w v
  | .b i, v => σ[i]? = some (some v)

section
variable (K : PySem.W.Frag) (ce : Nat → Option Addr) (Wx : WX)
/-- the exception's way out -/
def Exo (φ : List Addr) (Z : Addr → Prop) (st : ST) (σ : St) (H : Hp) (c : Nat) (fs : Flds) (st' : ST) : Prop :=
  ∀ φ' H' cls d, Step φ st σ H φ' st' H' → Rel K φ' Z st' σ H' → ExnR K ce φ' (AV Z st'.env σ) H' c fs cls d → Wx cls d σ H'
def Out {α : Type} (P : List Addr → (Addr → Prop) → ST → Hp → α → Prop) (φ : List Addr) (Z : Addr → Prop) (st : ST) (σ : St) (H : Hp) (r : R α) : Prop := match r with
  | .ok a st' => ∀ φ' H', Step φ st σ H φ' st' H' → P φ' Z st' H' a
  | .exn c fs st' => Exo K ce Wx φ Z st σ H c fs st'
  | .bad => False
def tI (m : ST → R RV) : TE := fun σ H Q => ∃ φ Z st, Rel K φ Z st σ H ∧ Out K ce Wx (fun φ' Z' st' H' r => ∀ v, RRep K H φ' Z' st' σ H' r v → Q v H') φ Z st σ H (m st)
def tO (m : ST → R OV) : TE := fun σ H Q => ∃ φ Z st, Rel K φ Z st σ H ∧ Out K ce Wx (fun φ' Z' st' H' o => Rel K φ' Z' st' σ H' → ∀ v, OVr K φ' (AV Z' st'.env σ) H' σ o v → Q v H') φ Z st σ H (m st)
def tTst (m : ST → R Bool) : TT := fun σ H Q => ∃ φ Z st, Rel K φ Z st σ H ∧ Out K ce Wx (fun φ' Z' st' H' b => Rel K φ' Z' st' σ H' → Q b H') φ Z st σ H (m st)
def tAr (m : ST → R (List W)) : TA := fun σ H Q => ∃ φ Z st, Rel K φ Z st σ H ∧ Out K ce Wx (fun φ' Z' st' H' ws => Rel K φ' Z' st' σ H' → ∀ vs, Reps K φ' (AV Z' st'.env σ) H' ws vs → Q vs H') φ Z st σ H (m st)
def OVs (K : PySem.W.Frag) (φ : List Addr) (A : Addr → Prop) (H : Hp) (σ : St) : List OV → List V → Prop
  | [], vs => vs = []
  | o :: os, vs => ∃ v r, vs = v :: r ∧ OVr K φ A H σ o v ∧ OVs K φ A H σ os r
def tOs (m : ST → R (List OV)) : TA := fun σ H Q => ∃ φ Z st, Rel K φ Z st σ H ∧ Out K ce Wx (fun φ' Z' st' H' os => Rel K φ' Z' st' σ H' → ∀ vs, OVs K φ' (AV Z' st'.env σ) H' σ os vs → Q vs H') φ Z st σ H (m st)
end

/-! ### simple facts -/
section
variable {K : PySem.W.Frag} {φ : List Addr} {Z : Addr → Prop} {st : ST} {σ : St} {H : Hp}
theorem RelS.anti {A A' : Addr → Prop} {S} (h : RelS K φ A H S) (hb : ∀ a, A' a → A a) : RelS K φ A' H S :=
  ⟨h.len, h.nd, fun a m z => h.av a m (hb a z), fun n a so e1 e2 => by
    have q := h.obj n a so e1 e2
    cases so with
    | lst ws =>
      obtain ⟨vs, q1, q2, q3⟩ := q
      exact ⟨vs, q1, q2, q3.anti hb⟩⟩
theorem SlotOk.anti {A A' : Addr → Prop} {s v} (h : SlotOk K φ A H s v) (hb : ∀ a, A' a → A a) : SlotOk K φ A' H s v := by
  cases s with
  | val w =>
    obtain ⟨u, e, r⟩ := h
    exact ⟨u, e, r.anti hb⟩
  | own ws =>
    obtain ⟨a, vs, h1, h2, h3, h4, h5⟩ := h
    exact ⟨a, vs, h1, h2, h3, h4, h5.anti hb⟩
/-- fewer hidden addresses -/
theorem Rel.less {Z' : Addr → Prop} (r : Rel K φ Z st σ H) (hb : ∀ a, Z' a → Z a) : Rel K φ Z' st σ H :=
  have k : ∀ a, AV Z' st.env σ a → AV Z st.env σ a := fun a z => z.elim (fun q => .inl (hb a q)) .inr
  ⟨r.sto.anti k, r.len, fun i s e => by
    obtain ⟨v, e1, q⟩ := r.env i s e
    exact ⟨v, e1, q.anti k⟩, r.dis, fun a h z => r.hid a h (hb a z), fun a z => r.zd a (hb a z)⟩
/-- a new object comes, hidden -/
theorem Rel.fresh {p : Addr} {o : HO} (r : Rel K φ Z st σ H) (h0 : H p = none) : Rel K φ (fun a => Z a ∨ a = p) st σ (upd H p o) := by
  have k : ∀ a, AV (fun a => Z a ∨ a = p) st.env σ a → AV Z st.env σ a ∨ a = p := fun a z => by
    rcases z with (z | z) | z
    · exact .inl (.inl z)
    · exact .inr z
    · exact .inl (.inr z)
  have sl : ∀ s v, SlotOk K φ (AV Z st.env σ) H s v → SlotOk K φ (AV (fun a => Z a ∨ a = p) st.env σ) (upd H p o) s v := fun s v h => by
    cases s with
    | val w =>
      obtain ⟨u, e, q⟩ := h
      exact ⟨u, e, (q.fresh h0).anti k⟩
    | own ws =>
      obtain ⟨a, vs, h1, h2, h3, h4, h5⟩ := h
      exact ⟨a, vs, h1, h2, by rw [upd_ne (ne_of_none h3 h0)]; exact h3, h4, (h5.fresh h0).anti k⟩
  refine ⟨⟨r.sto.len, r.sto.nd, fun a m z => ?_, fun n a so e1 e2 => ?_⟩, r.len, fun i s e => ?_, r.dis, fun a h z => ?_, fun a z => ?_⟩
  · rcases k a z with q | q
    · exact r.sto.av a m q
    · obtain ⟨n, hn⟩ := List.getElem?_of_mem m
      have hl : n < st.sto.length := by rw [← r.sto.len]; exact (List.getElem?_eq_some_iff.mp hn).1
      have q2 := r.sto.obj n a _ hn (List.getElem?_eq_getElem hl)
      rw [q] at q2
      cases hso : st.sto[n] with
      | lst ws =>
        rw [hso] at q2
        obtain ⟨vs, q3, _⟩ := q2
        rw [h0] at q3; cases q3
  · have q := r.sto.obj n a so e1 e2
    cases so with
    | lst ws =>
      obtain ⟨vs, q1, q2, q3⟩ := q
      exact ⟨vs, by rw [upd_ne (ne_of_none q1 h0)]; exact q1, q2, (q3.fresh h0).anti k⟩
  · obtain ⟨v, e1, q⟩ := r.env i s e
    exact ⟨v, e1, sl s v q⟩
  · rcases z with z | z
    · exact r.hid a h z
    · obtain ⟨i, ws, e1, e2⟩ := h
      obtain ⟨v, e3, a', vs, e4, _, e5, _⟩ := r.env i _ e1
      rw [e2] at e3
      cases e3
      cases e4
      rw [z, h0] at e5; cases e5
  · rcases z with z | z
    · obtain ⟨o', q⟩ := r.zd a z
      exact ⟨o', by rw [upd_ne (ne_of_none q h0)]; exact q⟩
    · exact ⟨o, by rw [z]; exact upd_same⟩
theorem Step.upd {p : Addr} {o : HO} (h0 : H p = none) : Step φ st σ H φ st (upd H p o) := ⟨.upd h0, fun _ h => h⟩
theorem Rel.upd {p : Addr} {o : HO} (r : Rel K φ Z st σ H) (h0 : H p = none) : Rel K φ Z st σ (upd H p o) := (r.fresh h0).less fun _ z => .inl z
theorem Rel.notAV {p : Addr} (r : Rel K φ Z st σ H) (h0 : H p = none) : ¬ AV Z st.env σ p ∧ p ∉ φ := by
  refine ⟨fun z => ?_, fun m => ?_⟩
  · rcases z with z | ⟨i, ws, e1, e2⟩
    · obtain ⟨o, q⟩ := r.zd p z
      rw [h0] at q; cases q
    · obtain ⟨v, e3, a', vs, e4, _, e5, _⟩ := r.env i _ e1
      rw [e2] at e3; cases e3; cases e4
      rw [h0] at e5; cases e5
  · obtain ⟨n, hn⟩ := List.getElem?_of_mem m
    have hl : n < st.sto.length := by rw [← r.sto.len]; exact (List.getElem?_eq_some_iff.mp hn).1
    have q2 := r.sto.obj n p _ hn (List.getElem?_eq_getElem hl)
    cases hso : st.sto[n] with
    | lst ws =>
      rw [hso] at q2
      obtain ⟨vs, q3, _⟩ := q2
      rw [h0] at q3; cases q3
/-- a new list -/
theorem RRep.new {B : Hp} {p : Addr} {ws vs} (dm : Dm B H) (r : Rel K φ Z st σ H) (h0 : H p = none) (hr : Reps K φ (AV Z st.env σ) H ws vs) (hz : vs.length ≤ sizeLine) : RRep K B φ Z st σ (L2.upd H p (.lst vs)) (.f ws) (.ref p) := by
  obtain ⟨h1, h2⟩ := r.notAV h0
  refine ⟨p, vs, rfl, dm.none h0, h2, h1, upd_same, hz, r.fresh h0, (hr.fresh h0).anti fun a z => ?_⟩
  rcases z with (z | z) | z
  · exact .inl (.inl z)
  · exact .inr z
  · exact .inl (.inr z)
/-- a new tuple -/
theorem RRep.newT {B : Hp} {p : Addr} {ws vs} (r : Rel K φ Z st σ H) (h0 : H p = none) (hr : Reps K φ (AV Z st.env σ) H ws vs) (hz : vs.length ≤ sizeLine) : RRep K B φ Z st σ (L2.upd H p (.tup vs)) (.v (.tup ws)) (.ref p) := by
  refine ⟨r.upd h0, rep_tup.mpr ⟨p, vs, rfl, ⟨.inl upd_same, hz⟩, ?_⟩⟩
  exact hr.ext (B := OE st.env σ) (Ext.upd h0) fun _ z => .inr z
/-- frozen: the result as a value -/
theorem RRep.val {B : Hp} {r : RV} {v : V} (h : RRep K B φ Z st σ H r v) : Rel K φ Z st σ H ∧ Rep K φ (AV Z st.env σ) H r.w v := by
  cases r with
  | v w => exact h
  | f ws =>
    obtain ⟨p, vs, rfl, _, h1, h2, h3, h4, h5, h6⟩ := h
    refine ⟨h5.less fun _ z => .inl z, rep_lst.mpr ⟨p, vs, rfl, ⟨h3, h1, h2, h4⟩, h6.anti fun a z => ?_⟩⟩
    rcases z with z | z
    · exact .inl (.inl z)
    · exact .inr z
theorem RRep.base {B B' : Hp} {r : RV} {v : V} (d : Dm B B') (h : RRep K B' φ Z st σ H r v) : RRep K B φ Z st σ H r v := by
  cases r with
  | v w => exact h
  | f ws =>
    obtain ⟨p, vs, e, h0, h⟩ := h
    exact ⟨p, vs, e, d.none h0, h⟩
theorem RRep.scal {B : Hp} {w : W} {v : V} (r : Rel K φ Z st σ H) (h : Rep K φ (AV Z st.env σ) H w v) : RRep K B φ Z st σ H (.v w) v := ⟨r, h⟩
end

/-! ### readings imply readings -/
theorem PE.imp {X : Cx} {e : Expr} {t t' : TE} (h : PE X e t) (i : ∀ σ H Q, t' σ H Q → t σ H Q) : PE X e t' := ⟨fun pins s σ H Q I q => h.run pins s σ H Q I (i σ H Q q)⟩
theorem PT.imp {X : Cx} {e : Expr} {t t' : TT} (h : PT X e t) (i : ∀ σ H Q, t' σ H Q → t σ H Q) : PT X e t' := ⟨fun pins s σ H Q I q => h.run pins s σ H Q I (i σ H Q q)⟩
theorem PW.imp {X : Cx} {e : Expr} {t t' : TT} (h : PW X e t) (i : ∀ σ H Q, t' σ H Q → t σ H Q) : PW X e t' := ⟨fun wh pins s σ H Q I q => h.run wh pins s σ H Q I (i σ H Q q)⟩
theorem PA.imp {X : Cx} {es : List Expr} {t t' : TA} (h : PA X es t) (i : ∀ σ H Q, t' σ H Q → t σ H Q) : PA X es t' := ⟨fun pos pins s σ H Q I q => h.run pos pins s σ H Q I (i σ H Q q)⟩
theorem PS.imp {X : Cx} {e : Stmt} {t t' : TS} (h : PS X e t) (i : ∀ D σ H, t' D σ H → t D σ H) : PS X e t' := ⟨fun pins s σ H D I q => h.run pins s σ H D I (i D σ H q)⟩
theorem PSs.imp {X : Cx} {e : List Stmt} {t t' : TS} (h : PSs X e t) (i : ∀ D σ H, t' D σ H → t D σ H) : PSs X e t' := ⟨fun pins s σ H D I q => h.run pins s σ H D I (i D σ H q)⟩

section
variable {K : PySem.W.Frag} {ce : Nat → Option Addr} {Wx : WX} {φ φ1 : List Addr} {Z : Addr → Prop} {st st1 : ST} {σ : St} {H H1 : Hp}
theorem Exo.step {c fs st'} (s : Step φ st σ H φ1 st1 H1) (h : Exo K ce Wx φ Z st σ H c fs st') : Exo K ce Wx φ1 Z st1 σ H1 c fs st' := fun φ' H' cls d s' => h φ' H' cls d (s.trans s')
/-- the rest of an evaluation, seen from its first part -/
theorem Out.bind {α β : Type} {P : List Addr → (Addr → Prop) → ST → Hp → β → Prop} {P' : List Addr → (Addr → Prop) → ST → Hp → α → Prop} {r : R α} {g : α → ST → R β}
    (h : Out K ce Wx P φ Z st σ H (r.bind g)) (k : ∀ a st1 φ1 H1, r = .ok a st1 → Step φ st σ H φ1 st1 H1 → Out K ce Wx P φ1 Z st1 σ H1 (g a st1) → P' φ1 Z st1 H1 a) : Out K ce Wx P' φ Z st σ H r := by
  cases r with
  | bad => exact h
  | exn c fs st' => exact h
  | ok a st1 =>
    intro φ1 H1 s1
    refine k a st1 φ1 H1 rfl s1 ?_
    have h' : Out K ce Wx P φ Z st σ H (g a st1) := h
    generalize g a st1 = r2 at h' ⊢
    cases r2 with
    | bad => exact h'
    | exn c fs st' => exact Exo.step s1 h'
    | ok b st2 => exact fun φ2 H2 s2 => h' φ2 H2 (s1.trans s2)
theorem Out.imp {α : Type} {P P' : List Addr → (Addr → Prop) → ST → Hp → α → Prop} {r : R α} (h : Out K ce Wx P φ Z st σ H r) (k : ∀ φ' Z' st' H' a, P φ' Z' st' H' a → P' φ' Z' st' H' a) : Out K ce Wx P' φ Z st σ H r := by
  cases r with
  | bad => exact h
  | exn c fs st' => exact h
  | ok a st1 => exact fun φ' H' s => k _ _ _ _ _ (h φ' H' s)
theorem Out.ok {α : Type} {P : List Addr → (Addr → Prop) → ST → Hp → α → Prop} {a : α} (h : Out K ce Wx P φ Z st σ H (.ok a st)) : P φ Z st H a := h φ H .refl
end
end LL

set_option Elab.async false
set_option linter.all false
set_option maxRecDepth 100000
set_option maxHeartbeats 2000000
/-! LLd: the operators by values, and the implications from the interpreter's readings to the rules' readings. -/
namespace LL
open PySem L2

section
variable {K : PySem.W.Frag} {φ : List Addr} {Z : Addr → Prop} {st : ST} {σ : St} {H : Hp}

/-- a value that is only looked at -/
def RT (K : PySem.W.Frag) (φ : List Addr) (A : Addr → Prop) (H : Hp) (w : W) (v : V) : Prop :=
  Rep K φ A H w v ∨ ∃ ws a vs, w = .lst ws ∧ v = .ref a ∧ H a = some (.lst vs) ∧ vs.length ≤ sizeLine ∧ Reps K φ A H ws vs
theorem RT.int {A i v} (h : RT K φ A H (.int i) v) : v = .int i := by
  rcases h with h | ⟨_, _, _, h, _⟩
  · exact rep_int.mp h
  · cases h
theorem RT.bl {A b v} (h : RT K φ A H (.bl b) v) : v = .bl b := by
  rcases h with h | ⟨_, _, _, h, _⟩
  · exact rep_bl.mp h
  · cases h
theorem RT.non {A v} (h : RT K φ A H .non v) : v = .non := by
  rcases h with h | ⟨_, _, _, h, _⟩
  · exact rep_non.mp h
  · cases h
theorem RT.str {A s v} (h : RT K φ A H (.str s) v) : v = .str s ∧ PyData.strOk s = true := by
  rcases h with h | ⟨_, _, _, h, _⟩
  · exact rep_str.mp h
  · cases h
theorem RT.tup {A ws v} (h : RT K φ A H (.tup ws) v) : ∃ a vs, v = .ref a ∧ TAt K H a vs ∧ Reps K φ A H ws vs := by
  rcases h with h | ⟨_, _, _, h, _⟩
  · exact rep_tup.mp h
  · cases h
theorem RT.lst {A ws v} (h : RT K φ A H (.lst ws) v) : ∃ a vs, v = .ref a ∧ H a = some (.lst vs) ∧ vs.length ≤ sizeLine ∧ Reps K φ A H ws vs := by
  rcases h with h | ⟨_, a, vs, h, h1, h2, h3, h4⟩
  · obtain ⟨a, vs, h1, h2, h3⟩ := rep_lst.mp h
    exact ⟨a, vs, h1, h2.at_, h2.sz, h3⟩
  · cases h
    exact ⟨a, vs, h1, h2, h3, h4⟩
theorem RT.scr {A ns v} (h : RT K φ A H (.scr ns) v) : ∃ a, v = .ref a ∧ ScrAt K φ A H a (ns.map V.int) := by
  rcases h with h | ⟨_, _, _, h, _⟩
  · exact rep_scr.mp h
  · cases h
/-- a list or a tuple, to be read -/
theorem RT.items {A w ws v} (h : RT K φ A H w v) (e : items w = some ws) : ∃ a vs, v = .ref a ∧ (SqL K H a vs ∨ SqT K H a vs) ∧ vs.length ≤ sizeLine ∧ Reps K φ A H ws vs := by
  cases w with
  | tup xs =>
    cases e
    obtain ⟨a, vs, h1, h2, h3⟩ := h.tup
    exact ⟨a, vs, h1, .inr h2.sq, h2.2, h3⟩
  | lst xs =>
    cases e
    obtain ⟨a, vs, h1, h2, h3, h4⟩ := h.lst
    exact ⟨a, vs, h1, .inl (.of h2), h3, h4⟩
  | _ => cases e
theorem OVr.top (r : Rel K φ Z st σ H) {o v w} (h : OVr K φ (AV Z st.env σ) H σ o v) (e : deref o st.env = some w) : RT K φ (AV Z st.env σ) H w v := by
  cases o with
  | v w' =>
    cases e
    exact .inl h
  | b i =>
    have h : σ[i]? = some (some v) := h
    unfold deref at e
    cases q : st.env[i]? with
    | none => simp [q] at e
    | some s =>
      cases s with
      | none => simp [q] at e
      | some s =>
        obtain ⟨u, e1, so⟩ := r.env i s q
        rw [h] at e1; cases e1
        cases s with
        | val w' =>
          simp [q] at e; subst e
          obtain ⟨u, e2, rr⟩ := so
          cases e2
          exact .inl rr
        | own ws =>
          simp [q] at e; subst e
          obtain ⟨a, vs, e2, _, h1, h2, h3⟩ := so
          cases e2
          exact .inr ⟨ws, a, vs, rfl, rfl, h1, h2, h3⟩
theorem RT.vw (r : Rel K φ Z st σ H) {v w} (h : RT K φ (AV Z st.env σ) H w v) : RT K φ (AV Z st.env σ) H (vw st.sto w) v := by
  cases w with
  | ref n =>
    rcases h with h | ⟨_, _, _, e, _⟩
    · obtain ⟨a, ea, rfl⟩ := rep_ref.mp h
      cases es : st.sto[n]? with
      | none =>
        have e : LL.vw st.sto (.ref n) = .ref n := by simp only [LL.vw, es]
        rw [e]
        exact .inl h
      | some so =>
        cases so with
        | lst ws =>
          have e : LL.vw st.sto (.ref n) = .lst ws := by simp only [LL.vw, es]
          rw [e]
          obtain ⟨vs, h1, h2, h3⟩ := r.sto.obj n a _ ea es
          exact .inr ⟨ws, a, vs, rfl, rfl, h1, h2, h3⟩
    · cases e
  | _ => exact h
theorem OVr.topV (r : Rel K φ Z st σ H) {o v w} (h : OVr K φ (AV Z st.env σ) H σ o v) (e : derefV o st = some w) : RT K φ (AV Z st.env σ) H w v := by
  unfold derefV at e
  obtain ⟨w', e1, rfl⟩ := Option.map_eq_some_iff.mp e
  exact (h.top r e1).vw r
theorem OVr.step {φ' st' H'} (s : Step φ st σ H φ' st' H') {o v} (h : OVr K φ (AV Z st.env σ) H σ o v) : OVr K φ' (AV Z st'.env σ) H' σ o v := by
  cases o with
  | v w => exact s.rep h
  | b i => exact h

/-- what the rule of a binary operation asks, from the plain function -/
def rU (K : PySem.W.Frag) (f : W → W → Option RV) : R2 := fun x y H Q => ∃ φ Z st σ w1 w2 r B, Dm B H ∧ Rel K φ Z st σ H ∧ RT K φ (AV Z st.env σ) H w1 x ∧ RT K φ (AV Z st.env σ) H w2 y ∧ f w1 w2 = some r ∧
  ∀ H' v, Step φ st σ H φ st H' → RRep K B φ Z st σ H' r v → Q v H'

theorem Reps.ints : ∀ {ns : List Int} {ws : List W} {vs : List V} {A}, Reps K φ A H ws vs → ws = ns.map W.int → vs = ns.map V.int
  | [], ws, vs, A, h, e => by
    subst e
    unfold Reps at h; exact h
  | n :: ns, ws, vs, A, h, e => by
    subst e
    rw [List.map_cons] at h
    unfold Reps at h
    obtain ⟨v, r, rfl, h1, h2⟩ := h
    rw [rep_int.mp h1, Reps.ints (ns := ns) h2 rfl]; rfl
theorem Reps.strs : ∀ {ns : List Str} {ws : List W} {vs : List V} {A}, Reps K φ A H ws vs → ws = ns.map W.str → vs = ns.map V.str ∧ ∀ s ∈ ns, PyData.strOk s = true
  | [], ws, vs, A, h, e => by
    subst e
    unfold Reps at h; exact ⟨h, by simp⟩
  | n :: ns, ws, vs, A, h, e => by
    subst e
    rw [List.map_cons] at h
    unfold Reps at h
    obtain ⟨v, r, rfl, h1, h2⟩ := h
    obtain ⟨h3, h4⟩ := Reps.strs (ns := ns) h2 rfl
    obtain ⟨h5, h6⟩ := rep_str.mp h1
    refine ⟨by rw [h5, h3]; rfl, fun s hs => ?_⟩
    rcases List.mem_cons.mp hs with rfl | hs
    · exact h6
    · exact h4 s hs
end

/-! ### operators -/
section
variable {X : Cx}
theorem nil_of {K φ A H} {ws : List W} {vs : List V} (r : Reps K φ A H ws vs) : (vs = [] → ws = []) ∧ (ws = [] → vs = []) := by
  have := r.length
  exact ⟨fun e => by subst e; cases ws with | nil => rfl | cons _ _ => simp at this, fun e => by subst e; cases vs with | nil => rfl | cons _ _ => simp at this⟩
theorem ou_add : OpR X (binaryOp .Add) (rU X.K (op2 .add)) := by
  intro pins s σ H x y v u Q I rx ry h
  obtain ⟨φ, Z, st, σ', w1, w2, r, B, dm, rel, h1, h2, e, q⟩ := h
  cases w1 <;> cases w2 <;> simp only [op2] at e <;> try (cases e)
  · rename_i i j
    refine op_add pins s σ H x y v u Q I rx ry ⟨i, j, h1.int, h2.int, ?_⟩
    exact q H _ .refl ⟨rel, rep_int.mpr rfl⟩
  · rename_i xs ys
    obtain ⟨a, vs, e1, t1, r1⟩ := h1.tup
    obtain ⟨b, us, e2, t2, r2⟩ := h2.tup
    split at e
    · rename_i hz
      cases e
      have hz' : vs.length + us.length ≤ sizeLine := by rw [r1.length, r2.length]; exact of_decide_eq_true hz
      refine op_catA pins s σ H x y v u Q I rx ry ⟨a, b, vs, us, e1, e2, t1.sq, t2.sq, hz', fun n1 => ?_, fun n1 n2 => ?_, fun n1 n2 p hp => ?_⟩
      · rw [(nil_of r1).1 n1] at q
        exact q H _ .refl ⟨rel, rep_tup.mpr ⟨b, us, rfl, t2, r2⟩⟩
      · rw [(nil_of r2).1 n2, List.append_nil] at q
        exact q H _ .refl ⟨rel, rep_tup.mpr ⟨a, vs, rfl, t1, r1⟩⟩
      · exact q _ _ (Step.upd hp) (RRep.newT rel hp (r1.append r2) (by rw [List.length_append]; exact hz'))
    · cases e
  · rename_i xs ys
    obtain ⟨a, vs, e1, t1, z1, r1⟩ := h1.lst
    obtain ⟨b, us, e2, t2, z2, r2⟩ := h2.lst
    split at e
    · rename_i hz
      cases e
      have hz' : vs.length + us.length ≤ sizeLine := by rw [r1.length, r2.length]; exact of_decide_eq_true hz
      refine op_cat pins s σ H x y v u Q I rx ry ⟨a, b, vs, us, e1, e2, t1, t2, hz', fun p hp => ?_⟩
      exact q _ _ (Step.upd hp) (RRep.new dm rel hp (r1.append r2) (by rw [List.length_append]; exact hz'))
    · cases e
theorem ou_sub : OpR X (binaryOp .Sub) (rU X.K (op2 .sub)) := by
  intro pins s σ H x y v u Q I rx ry h
  obtain ⟨φ, Z, st, σ', w1, w2, r, B, dm, rel, h1, h2, e, q⟩ := h
  cases w1 <;> cases w2 <;> simp only [op2] at e <;> try (cases e)
  rename_i i j
  exact op_sub pins s σ H x y v u Q I rx ry ⟨i, j, h1.int, h2.int, q H _ .refl ⟨rel, rep_int.mpr rfl⟩⟩
theorem ou_mul : OpR X (binaryOp .Mult) (rU X.K (op2 .mul)) := by
  intro pins s σ H x y v u Q I rx ry h
  obtain ⟨φ, Z, st, σ', w1, w2, r, B, dm, rel, h1, h2, e, q⟩ := h
  cases w1 <;> cases w2 <;> simp only [op2] at e <;> try (cases e)
  rename_i i j
  split at e
  · rename_i hz
    cases e
    refine op_mul pins s σ H x y v u Q I rx ry ⟨i, j, h1.int, h2.int, ?_, q H _ .refl ⟨rel, rep_int.mpr rfl⟩⟩
    simpa [mulOk, CMul] using hz
  · cases e
theorem ou_fdiv : OpR X (binaryOp .FloorDiv) (rU X.K (op2 .fdiv)) := by
  intro pins s σ H x y v u Q I rx ry h
  obtain ⟨φ, Z, st, σ', w1, w2, r, B, dm, rel, h1, h2, e, q⟩ := h
  cases w1 <;> cases w2 <;> simp only [op2] at e <;> try (cases e)
  rename_i i j
  split at e
  · rename_i hz
    cases e
    refine op_fdiv pins s σ H x y v u Q I rx ry ⟨i, j, h1.int, h2.int, ?_, q H _ .refl ⟨rel, rep_int.mpr rfl⟩⟩
    simpa [CDiv] using hz
  · cases e
theorem ou_mod : OpR X (binaryOp .Mod) (rU X.K (op2 .mod)) := by
  intro pins s σ H x y v u Q I rx ry h
  obtain ⟨φ, Z, st, σ', w1, w2, r, B, dm, rel, h1, h2, e, q⟩ := h
  cases w1 <;> cases w2 <;> simp only [op2] at e <;> try (cases e)
  rename_i i j
  split at e
  · rename_i hz
    cases e
    refine op_mod pins s σ H x y v u Q I rx ry ⟨i, j, h1.int, h2.int, ?_, q H _ .refl ⟨rel, rep_int.mpr rfl⟩⟩
    simpa using hz
  · cases e
theorem ou_pow : OpR X (binaryOp .Pow) (rU X.K (op2 .pow)) := by
  intro pins s σ H x y v u Q I rx ry h
  obtain ⟨φ, Z, st, σ', w1, w2, r, B, dm, rel, h1, h2, e, q⟩ := h
  cases w1 <;> cases w2 <;> simp only [op2] at e <;> try (cases e)
  rename_i i j
  split at e
  · rename_i hz
    cases e
    refine op_pow pins s σ H x y v u Q I rx ry ⟨i, j, h1.int, h2.int, ?_, q H _ .refl ⟨rel, rep_int.mpr rfl⟩⟩
    simpa [CPow, and_assoc] using hz
  · cases e
end

/-! ### comparisons -/
mutual
def toD : W → PyData
  | .non => .none
  | .bl b => .bool b
  | .int i => .int i
  | .str s => .str s
  | .tup xs => .tuple (toDs xs)
  | .lst xs => .list (toDs xs)
  | .ref _ => .none
  | .scr _ => .none
def toDs : List W → List PyData
  | [] => []
  | x :: xs => toD x :: toDs xs
end
theorem okd_tup {n xs} (h : okd n (.tup xs) = true) : ∃ m, n = m + 1 ∧ okds m xs = true := by
  cases n with
  | zero => simp [okd] at h
  | succ m => exact ⟨m, rfl, by simpa [okd] using h⟩
theorem okd_lst {n xs} (h : okd n (.lst xs) = true) : ∃ m, n = m + 1 ∧ okds m xs = true := by
  cases n with
  | zero => simp [okd] at h
  | succ m => exact ⟨m, rfl, by simpa [okd] using h⟩
theorem okd_ref {n k} (h : okd n (.ref k) = true) : False := by cases n <;> simp [okd] at h
theorem okd_scr {n k} (h : okd n (.scr k) = true) : False := by cases n <;> simp [okd] at h
theorem okds_cons {n x xs} (h : okds n (x :: xs) = true) : okd n x = true ∧ okds n xs = true := by
  rw [okds] at h
  exact Bool.and_eq_true_iff.mp h
mutual
theorem weq_eqv : ∀ (x y : W) (n m : Nat), okd n x = true → okd m y = true → weq x y = PyData.eqv (toD x) (toD y)
  | .non, y, n, m, _, h => by
    cases y <;> first | exact (okd_ref h).elim | exact (okd_scr h).elim | rfl
  | .bl a, y, n, m, _, h => by
    cases y <;> first | exact (okd_ref h).elim | exact (okd_scr h).elim | rfl
  | .int a, y, n, m, _, h => by
    cases y <;> first | exact (okd_ref h).elim | exact (okd_scr h).elim | rfl
  | .str a, y, n, m, _, h => by
    cases y <;> first | exact (okd_ref h).elim | exact (okd_scr h).elim | rfl
  | .tup xs, y, n, m, g, h => by
    obtain ⟨n', e1, g'⟩ := okd_tup g
    cases y with
    | tup ys =>
      obtain ⟨m', e2, h'⟩ := okd_tup h
      have q := weqs_eqv xs ys n' m' g' h'
      rw [weq, toD, toD, PyData.eqv, q]
    | ref k => exact (okd_ref h).elim
    | scr k => exact (okd_scr h).elim
    | _ => rfl
  | .lst xs, y, n, m, g, h => by
    obtain ⟨n', e1, g'⟩ := okd_lst g
    cases y with
    | lst ys =>
      obtain ⟨m', e2, h'⟩ := okd_lst h
      have q := weqs_eqv xs ys n' m' g' h'
      rw [weq, toD, toD, PyData.eqv, q]
    | ref k => exact (okd_ref h).elim
    | scr k => exact (okd_scr h).elim
    | _ => rfl
  | .ref _, y, n, m, g, h => (okd_ref g).elim
  | .scr _, y, n, m, g, h => (okd_scr g).elim
theorem weqs_eqv : ∀ (xs ys : List W) (n m : Nat), okds n xs = true → okds m ys = true → weqs xs ys = PyData.eqvAll (toDs xs) (toDs ys)
  | [], [], _, _, _, _ => rfl
  | [], _ :: _, _, _, _, _ => rfl
  | _ :: _, [], _, _, _, _ => rfl
  | x :: xs, y :: ys, n, m, g, h => by
    have q1 := weq_eqv x y n m (okds_cons g).1 (okds_cons h).1
    have q2 := weqs_eqv xs ys n m (okds_cons g).2 (okds_cons h).2
    rw [weqs, toDs, toDs, PyData.eqvAll, q1, q2]
end
mutual
theorem okd_depth : ∀ (x : W) (n : Nat), okd n x = true → (toD x).depth ≤ n
  | .non, n, _ => by simp [toD, PyData.depth]
  | .bl _, n, _ => by simp [toD, PyData.depth]
  | .int _, n, _ => by simp [toD, PyData.depth]
  | .str _, n, _ => by simp [toD, PyData.depth]
  | .tup xs, n, h => by
    obtain ⟨m, e, h'⟩ := okd_tup h
    have q := okds_depth xs m h'
    rw [toD, PyData.depth, e]; omega
  | .lst xs, n, h => by
    obtain ⟨m, e, h'⟩ := okd_lst h
    have q := okds_depth xs m h'
    rw [toD, PyData.depth, e]; omega
  | .ref _, n, h => (okd_ref h).elim
  | .scr _, n, h => (okd_scr h).elim
theorem okds_depth : ∀ (xs : List W) (n : Nat), okds n xs = true → PyData.depthAll (toDs xs) ≤ n
  | [], n, _ => by simp [toDs, PyData.depthAll]
  | x :: xs, n, h => by
    have h1 := okd_depth x n (okds_cons h).1
    have h2 := okds_depth xs n (okds_cons h).2
    rw [toDs, PyData.depthAll]; omega
end
section
variable {K : PySem.W.Frag} {φ : List Addr} {A : Addr → Prop} {H : Hp}
mutual
theorem rep_dp : ∀ (w : W) (n : Nat) (v : V), okd n w = true → Rep K φ A H w v → Dp K H v (toD w) ∧ (toD w).canLay0 = true
  | .non, n, v, _, h => by rw [rep_non.mp h]; exact ⟨.non, rfl⟩
  | .bl b, n, v, _, h => by rw [rep_bl.mp h]; exact ⟨.bl b, rfl⟩
  | .int i, n, v, _, h => by rw [rep_int.mp h]; exact ⟨.int i, rfl⟩
  | .str s, n, v, _, h => by
    obtain ⟨h1, h2⟩ := rep_str.mp h
    rw [h1]
    exact ⟨.str s, h2⟩
  | .tup xs, n, v, g, h => by
    obtain ⟨m, e, g'⟩ := okd_tup g
    obtain ⟨a, vs, rfl, t, r⟩ := rep_tup.mp h
    obtain ⟨h1, h2⟩ := reps_dp xs m vs g' r
    exact ⟨.tup t.sq h1, h2⟩
  | .lst xs, n, v, g, h => by
    obtain ⟨m, e, g'⟩ := okd_lst g
    obtain ⟨a, vs, rfl, t, r⟩ := rep_lst.mp h
    obtain ⟨h1, h2⟩ := reps_dp xs m vs g' r
    exact ⟨.lst (.of t.at_) h1, h2⟩
  | .ref _, n, v, g, h => (okd_ref g).elim
  | .scr _, n, v, g, h => (okd_scr g).elim
theorem reps_dp : ∀ (ws : List W) (n : Nat) (vs : List V), okds n ws = true → Reps K φ A H ws vs → DpAll K H vs (toDs ws) ∧ PyData.canLayAll0 (toDs ws) = true
  | [], n, vs, _, h => by
    unfold Reps at h; subst h
    exact ⟨.nil, rfl⟩
  | w :: ws, n, vs, g, h => by
    unfold Reps at h
    obtain ⟨v, r, rfl, h1, h2⟩ := h
    obtain ⟨d1, c1⟩ := rep_dp w n v (okds_cons g).1 h1
    obtain ⟨d2, c2⟩ := reps_dp ws n r (okds_cons g).2 h2
    refine ⟨.cons d1 d2, ?_⟩
    rw [toDs, PyData.canLayAll0, c1, c2]; rfl
end
theorem RT.dp {w v} (h : RT K φ A H w v) (g : okd 60 w = true) : Dp K H v (toD w) ∧ SeqAt.shaped (toD w) = true := by
  have hd := okd_depth w 60 g
  have fin : (toD w).canLay0 = true → SeqAt.shaped (toD w) = true := fun e1 => by
    unfold SeqAt.shaped
    rw [e1, Bool.true_and]
    exact decide_eq_true (by omega)
  rcases h with h | ⟨ws, a, vs, rfl, rfl, h1, h2, h3⟩
  · obtain ⟨d, c⟩ := rep_dp w 60 v g h
    exact ⟨d, fin c⟩
  · obtain ⟨m, e, g'⟩ := okd_lst g
    obtain ⟨d, c⟩ := reps_dp ws m vs g' h3
    exact ⟨.lst (.of h1) d, fin c⟩
theorem flat_rep {x : W} {u : V} (fx : flatW x = true) (hx : Rep K φ A H x u) : L2.flatV u = true := by
  cases x <;> simp only [flatW] at fx <;> try (cases fx)
  · rw [rep_non.mp hx]; rfl
  · rw [rep_bl.mp hx]; rfl
  · rw [rep_int.mp hx]; rfl
  · rw [(rep_str.mp hx).1]; rfl
theorem flat_eqV {x y : W} {u v : V} (fx : flatW x = true) (fy : flatW y = true) (hx : Rep K φ A H x u) (hy : Rep K φ A H y v) : L2.eqV u v = weq x y := by
  cases x <;> simp only [flatW] at fx <;> try (cases fx)
  · rw [rep_non.mp hx]
    cases y <;> simp only [flatW] at fy <;> try (cases fy)
    · rw [rep_non.mp hy]; rfl
    · rw [rep_bl.mp hy]; rfl
    · rw [rep_int.mp hy]; rfl
    · rw [(rep_str.mp hy).1]; rfl
  · rw [rep_bl.mp hx]
    cases y <;> simp only [flatW] at fy <;> try (cases fy)
    · rw [rep_non.mp hy]; rfl
    · rw [rep_bl.mp hy]; rfl
    · rw [rep_int.mp hy]; rfl
    · rw [(rep_str.mp hy).1]; rfl
  · rw [rep_int.mp hx]
    cases y <;> simp only [flatW] at fy <;> try (cases fy)
    · rw [rep_non.mp hy]; rfl
    · rw [rep_bl.mp hy]; rfl
    · rw [rep_int.mp hy]; rfl
    · rw [(rep_str.mp hy).1]; rfl
  · rw [(rep_str.mp hx).1]
    cases y <;> simp only [flatW] at fy <;> try (cases fy)
    · rw [rep_non.mp hy]; rfl
    · rw [rep_bl.mp hy]; rfl
    · rw [rep_int.mp hy]; rfl
    · rw [(rep_str.mp hy).1]; rfl
theorem flats_in {x : W} {u : V} (fx : flatW x = true) (hx : Rep K φ A H x u) : ∀ (ys : List W) (vs : List V), ys.all flatW = true → Reps K φ A H ys vs → vs.all L2.flatV = true ∧ L2.inV u vs = ys.any fun y => weq y x
  | [], vs, _, h => by
    unfold Reps at h; subst h
    exact ⟨rfl, rfl⟩
  | y :: ys, vs, g, h => by
    unfold Reps at h
    obtain ⟨v, r, rfl, h1, h2⟩ := h
    rw [List.all_cons, Bool.and_eq_true] at g
    obtain ⟨q1, q2⟩ := flats_in fx hx ys r g.2 h2
    refine ⟨by rw [List.all_cons, flat_rep g.1 h1, q1]; rfl, ?_⟩
    unfold L2.inV at q2 ⊢
    rw [List.any_cons, List.any_cons, q2, flat_eqV g.1 fx h1 hx]
end

section
variable {X : Cx}
theorem vB_some {o : Option Bool} {r : RV} (h : vB o = some r) : ∃ b, o = some b ∧ r = .v (.bl b) := by
  cases o with
  | none => cases h
  | some b => exact ⟨b, rfl, (Option.some.inj h).symm⟩
theorem oc_eq (hu : X.A.units + 64 < cLine) : OpR X (compareOp .Eq) (rU X.K fun v w => vB (cmp2 .eq v w)) := by
  intro pins s σ H x y v u Q I rx ry h
  obtain ⟨φ, Z, st, σ', w1, w2, r, B, dm, rel, h1, h2, e, q⟩ := h
  obtain ⟨b, e', rfl⟩ := vB_some e
  clear e
  have e := e'
  clear e'
  simp only [cmp2] at e
  split at e
  · rename_i g
    rw [Bool.and_eq_true] at g
    cases e
    obtain ⟨d1, s1⟩ := h1.dp g.1
    obtain ⟨d2, s2⟩ := h2.dp g.2
    refine op_eqD hu pins s σ H x y v u Q I rx ry ⟨_, _, d1, d2, s1, s2, ?_⟩
    rw [← weq_eqv w1 w2 60 60 g.1 g.2]
    exact q H _ .refl ⟨rel, rep_bl.mpr rfl⟩
  · cases e
theorem oc_ne (hu : X.A.units + 64 < cLine) : OpR X (compareOp .NotEq) (rU X.K fun v w => vB (cmp2 .ne v w)) := by
  intro pins s σ H x y v u Q I rx ry h
  obtain ⟨φ, Z, st, σ', w1, w2, r, B, dm, rel, h1, h2, e, q⟩ := h
  obtain ⟨b, e', rfl⟩ := vB_some e
  clear e
  have e := e'
  clear e'
  simp only [cmp2] at e
  split at e
  · rename_i g
    rw [Bool.and_eq_true] at g
    cases e
    obtain ⟨d1, s1⟩ := h1.dp g.1
    obtain ⟨d2, s2⟩ := h2.dp g.2
    refine op_neD hu pins s σ H x y v u Q I rx ry ⟨_, _, d1, d2, s1, s2, ?_⟩
    rw [← weq_eqv w1 w2 60 60 g.1 g.2]
    exact q H _ .refl ⟨rel, rep_bl.mpr rfl⟩
  · cases e
theorem oc_lt : OpR X (compareOp .Lt) (rU X.K fun v w => vB (cmp2 .lt v w)) := by
  intro pins s σ H x y v u Q I rx ry h
  obtain ⟨φ, Z, st, σ', w1, w2, r, B, dm, rel, h1, h2, e, q⟩ := h
  obtain ⟨b, e', rfl⟩ := vB_some e
  clear e
  have e := e'
  clear e'
  cases w1 <;> cases w2 <;> simp only [cmp2] at e <;> try (cases e)
  exact op_lt pins s σ H x y v u Q I rx ry ⟨_, _, h1.int, h2.int, q H _ .refl ⟨rel, rep_bl.mpr rfl⟩⟩
theorem oc_le : OpR X (compareOp .LtE) (rU X.K fun v w => vB (cmp2 .le v w)) := by
  intro pins s σ H x y v u Q I rx ry h
  obtain ⟨φ, Z, st, σ', w1, w2, r, B, dm, rel, h1, h2, e, q⟩ := h
  obtain ⟨b, e', rfl⟩ := vB_some e
  clear e
  have e := e'
  clear e'
  cases w1 <;> cases w2 <;> simp only [cmp2] at e <;> try (cases e)
  exact op_le pins s σ H x y v u Q I rx ry ⟨_, _, h1.int, h2.int, q H _ .refl ⟨rel, rep_bl.mpr rfl⟩⟩
theorem oc_gt : OpR X (compareOp .Gt) (rU X.K fun v w => vB (cmp2 .gt v w)) := by
  intro pins s σ H x y v u Q I rx ry h
  obtain ⟨φ, Z, st, σ', w1, w2, r, B, dm, rel, h1, h2, e, q⟩ := h
  obtain ⟨b, e', rfl⟩ := vB_some e
  clear e
  have e := e'
  clear e'
  cases w1 <;> cases w2 <;> simp only [cmp2] at e <;> try (cases e)
  exact op_gt pins s σ H x y v u Q I rx ry ⟨_, _, h1.int, h2.int, q H _ .refl ⟨rel, rep_bl.mpr rfl⟩⟩
theorem oc_ge : OpR X (compareOp .GtE) (rU X.K fun v w => vB (cmp2 .ge v w)) := by
  intro pins s σ H x y v u Q I rx ry h
  obtain ⟨φ, Z, st, σ', w1, w2, r, B, dm, rel, h1, h2, e, q⟩ := h
  obtain ⟨b, e', rfl⟩ := vB_some e
  clear e
  have e := e'
  clear e'
  cases w1 <;> cases w2 <;> simp only [cmp2] at e <;> try (cases e)
  exact op_ge pins s σ H x y v u Q I rx ry ⟨_, _, h1.int, h2.int, q H _ .refl ⟨rel, rep_bl.mpr rfl⟩⟩
theorem RT.isN {K φ A H w v} (h : RT K φ A H w v) : decide (v = .non) = isNonW w := by
  cases w with
  | non => rw [h.non]; rfl
  | bl b => rw [h.bl]; rfl
  | int b => rw [h.int]; rfl
  | str b => rw [h.str.1]; rfl
  | tup b => obtain ⟨a, vs, e, _⟩ := h.tup; rw [e]; rfl
  | lst b => obtain ⟨a, vs, e, _⟩ := h.lst; rw [e]; rfl
  | scr b => obtain ⟨a, e, _⟩ := h.scr; rw [e]; rfl
  | ref n =>
    rcases h with h | ⟨_, _, _, h, _⟩
    · obtain ⟨a, _, e⟩ := rep_ref.mp h; rw [e]; rfl
    · cases h
theorem oc_isN : OpR X (compareOp .Is) (rU X.K fun v w => vB (cmp2 .isN v w)) := by
  intro pins s σ H x y v u Q I rx ry h
  obtain ⟨φ, Z, st, σ', w1, w2, r, B, dm, rel, h1, h2, e, q⟩ := h
  obtain ⟨b, e', rfl⟩ := vB_some e
  clear e
  have e := e'
  clear e'
  cases w2 with
  | non =>
    refine op_isN pins s σ H x y v u Q I rx ry ⟨h2.non, ?_⟩
    rw [h1.isN]
    refine q H _ .refl ⟨rel, rep_bl.mpr ?_⟩
    simp only [cmp2, Option.some.injEq] at e
    rw [e]
  | _ => simp only [cmp2] at e; cases e
theorem oc_notN : OpR X (compareOp .IsNot) (rU X.K fun v w => vB (cmp2 .notN v w)) := by
  intro pins s σ H x y v u Q I rx ry h
  obtain ⟨φ, Z, st, σ', w1, w2, r, B, dm, rel, h1, h2, e, q⟩ := h
  obtain ⟨b, e', rfl⟩ := vB_some e
  clear e
  have e := e'
  clear e'
  cases w2 with
  | non =>
    refine op_notN pins s σ H x y v u Q I rx ry ⟨h2.non, ?_⟩
    rw [h1.isN]
    refine q H _ .refl ⟨rel, rep_bl.mpr ?_⟩
    simp only [cmp2, Option.some.injEq] at e
    rw [e]
  | _ => simp only [cmp2] at e; cases e
theorem flat_rt {K φ A H x v} (h : RT K φ A H x v) (f : flatW x = true) : Rep K φ A H x v := by
  rcases h with h | ⟨_, _, _, rfl, _⟩
  · exact h
  · cases f
theorem oc_in : OpR X (compareOp .In) (rU X.K fun v w => vB (cmp2 .inn v w)) := by
  intro pins s σ H x y v u Q I rx ry h
  obtain ⟨φ, Z, st, σ', w1, w2, r, B, dm, rel, h1, h2, e, q⟩ := h
  obtain ⟨b, e', rfl⟩ := vB_some e
  clear e
  have e := e'
  clear e'
  simp only [cmp2] at e
  cases it : items w2 with
  | none => rw [it] at e; cases e
  | some ws =>
    rw [it, Option.bind_some] at e
    split at e
    · rename_i g
      rw [Bool.and_eq_true] at g
      cases e
      obtain ⟨a, vs, e2, sq, _, rr⟩ := h2.items it
      obtain ⟨f1, f2⟩ := flats_in g.1 (flat_rt h1 g.1) ws vs g.2 rr
      refine op_in_seq pins s σ H x y v u Q I rx ry ⟨a, vs, e2, sq, flat_rep g.1 (flat_rt h1 g.1), f1, ?_⟩
      rw [if_neg Bool.false_ne_true, f2]
      exact q H _ .refl ⟨rel, rep_bl.mpr rfl⟩
    · cases e
theorem oc_nin : OpR X (compareOp .NotIn) (rU X.K fun v w => vB (cmp2 .nin v w)) := by
  intro pins s σ H x y v u Q I rx ry h
  obtain ⟨φ, Z, st, σ', w1, w2, r, B, dm, rel, h1, h2, e, q⟩ := h
  obtain ⟨b, e', rfl⟩ := vB_some e
  clear e
  have e := e'
  clear e'
  simp only [cmp2] at e
  cases it : items w2 with
  | none => rw [it] at e; cases e
  | some ws =>
    rw [it, Option.bind_some] at e
    split at e
    · rename_i g
      rw [Bool.and_eq_true] at g
      cases e
      obtain ⟨a, vs, e2, sq, _, rr⟩ := h2.items it
      obtain ⟨f1, f2⟩ := flats_in g.1 (flat_rt h1 g.1) ws vs g.2 rr
      refine op_notIn_seq pins s σ H x y v u Q I rx ry ⟨a, vs, e2, sq, flat_rep g.1 (flat_rt h1 g.1), f1, ?_⟩
      rw [if_pos rfl, f2]
      exact q H _ .refl ⟨rel, rep_bl.mpr rfl⟩
    · cases e
/-! ### places, slices -/
theorem atI_rep {K φ A H} {ws : List W} {vs : List V} {i : Int} {w : W} (r : Reps K φ A H ws vs) (h : atI ws i = some w) : ∃ v, atI vs i = some v ∧ Rep K φ A H w v := by
  unfold atI at h ⊢
  rw [r.length]
  cases e : ixN ws.length i with
  | none => rw [e] at h; cases h
  | some j =>
    rw [e, Option.bind_some] at h
    rw [Option.bind_some]
    exact r.get h
theorem ix_U : IxR X (rU X.K fun v w => (idx2 v w).map .v) := by
  intro value slice pins s σ H x y v u Q I rx ry h hs
  obtain ⟨φ, Z, st, σ', w1, w2, r, B, dm, rel, h1, h2, e, q⟩ := h
  cases w1 <;> cases w2 <;> simp only [idx2, Option.map_none] at e <;> try (cases e)
  · rename_i xs i
    obtain ⟨w, e1, rfl⟩ := Option.map_eq_some_iff.mp e
    obtain ⟨a, vs, e2, t, rr⟩ := h1.tup
    obtain ⟨z, e3, rz⟩ := atI_rep rr e1
    exact ix_tup value slice pins s σ H x y v u Q I rx ry ⟨a, vs, i, z, e2, h2.int, t.sq, e3, q H _ .refl ⟨rel, rz⟩⟩ hs
  · rename_i xs i
    obtain ⟨w, e1, rfl⟩ := Option.map_eq_some_iff.mp e
    obtain ⟨a, vs, e2, t, _, rr⟩ := h1.lst
    obtain ⟨z, e3, rz⟩ := atI_rep rr e1
    exact ix_list value slice pins s σ H x y v u Q I rx ry ⟨a, vs, i, z, e2, h2.int, .of t, e3, q H _ .refl ⟨rel, rz⟩⟩ hs
  · rename_i ns i
    obtain ⟨w, e9, rfl⟩ := Option.map_eq_some_iff.mp e
    obtain ⟨n, e1, rfl⟩ := Option.map_eq_some_iff.mp e9
    obtain ⟨a, e2, t⟩ := h1.scr
    have e3 : atI (ns.map V.int) i = some (.int n) := by
      unfold atI at e1 ⊢
      rw [List.length_map]
      cases e4 : ixN ns.length i with
      | none => rw [e4] at e1; cases e1
      | some j =>
        rw [e4, Option.bind_some] at e1
        rw [Option.bind_some, List.getElem?_map, e1]; rfl
    exact ix_list value slice pins s σ H x y v u Q I rx ry ⟨a, _, i, _, e2, h2.int, t.sq, e3, q H _ .refl ⟨rel, rep_int.mpr rfl⟩⟩ hs
/-- a slice, by values -/
def rUs (K : PySem.W.Frag) : V → Option Int → Option Int → Hp → VK → Prop := fun x lo hi H Q => ∃ φ Z st σ w r B, Dm B H ∧ Rel K φ Z st σ H ∧ RT K φ (AV Z st.env σ) H w x ∧ slc2 lo hi w = some r ∧ ∀ H' v, Step φ st σ H φ st H' → RRep K B φ Z st σ H' r v → Q v H'
theorem cut_reps {K φ A H} {ws : List W} {vs : List V} {lo hi} (r : Reps K φ A H ws vs) : Reps K φ A H (cutW ws lo hi) (cutV vs lo hi) := by
  unfold cutW cutV
  rw [r.length]
  exact (r.drop _).take _
theorem sl_U : SlR X (rUs X.K) := by
  intro pins s σ H x v vl vu lo hi sl Q I rx hs pl pu h
  obtain ⟨φ, Z, st, σ', w, r, B, dm, rel, h1, e, q⟩ := h
  cases w <;> simp only [slc2] at e <;> try (cases e)
  · rename_i xs
    obtain ⟨a, vs, e2, t, rr⟩ := h1.tup
    refine sl_tupA pins s σ H x v vl vu lo hi sl Q I rx hs pl pu ⟨a, vs, e2, t.sq, fun hw => ?_, fun hw p hp => ?_⟩
    · have ec : cutW xs lo hi = xs := by
        unfold cutW
        rw [← rr.length, hw.1, hw.2, rr.length]; simp
      rw [ec] at q
      exact q H _ .refl ⟨rel, rep_tup.mpr ⟨a, vs, rfl, t, rr⟩⟩
    · exact q _ _ (Step.upd hp) (RRep.newT rel hp (cut_reps rr) (Nat.le_trans (cutV_length _ _ _) t.2))
  · rename_i xs
    obtain ⟨a, vs, e2, t, z, rr⟩ := h1.lst
    exact sl_list pins s σ H x v vl vu lo hi sl Q I rx hs pl pu ⟨a, vs, e2, .of t, fun p hp => q _ _ (Step.upd hp) (RRep.new dm rel hp (cut_reps rr) (Nat.le_trans (cutV_length _ _ _) z))⟩
end
end LL

set_option Elab.async false
set_option linter.all false
set_option maxRecDepth 100000
set_option maxHeartbeats 2000000
/-! LLe: the constructs of expressions. -/
namespace LL
open PySem L2

section
variable {K : PySem.W.Frag} {ce : Nat → Option Addr} {Wx : WX} {C : CT}
theorem Rel.slot {φ Z st} {σ : St} {H} {i : Nat} {s} (r : Rel K φ Z st σ H) (e : st.env[i]? = some (some s)) : ∃ v, σ[i]? = some (some v) := by
  obtain ⟨v, e1, q⟩ := r.env i s e
  cases s with
  | val w =>
    obtain ⟨u, rfl, _⟩ := q
    exact ⟨u, e1⟩
  | own ws =>
    obtain ⟨a, vs, rfl, _⟩ := q
    exact ⟨_, e1⟩
/-- a slot's own list is frozen -/
theorem Rel.freeze {φ Z st} {σ : St} {H} {i : Nat} {ws} (r : Rel K φ Z st σ H) (e : st.env[i]? = some (some (.own ws))) :
    ∃ v, σ[i]? = some (some v) ∧ Rel K φ Z { st with env := st.env.set i (some (.val (.lst ws))) } σ H ∧ Rep K φ (AV Z (st.env.set i (some (.val (.lst ws)))) σ) H (.lst ws) v ∧
      ∀ a, OE (st.env.set i (some (.val (.lst ws)))) σ a → OE st.env σ a := by
  obtain ⟨v, e1, q⟩ := r.env i _ e
  obtain ⟨a, vs, rfl, n1, h1, z1, rr⟩ := q
  have hi : i < st.env.length := (List.getElem?_eq_some_iff.mp e).1
  have oe : ∀ b, OE (st.env.set i (some (.val (.lst ws)))) σ b → OE st.env σ b ∧ b ≠ a := fun b ⟨j, us, e2, e3⟩ => by
    by_cases hj : j = i
    · subst hj
      rw [List.getElem?_set_self hi] at e2; cases e2
    · rw [List.getElem?_set_ne (Ne.symm hj)] at e2
      refine ⟨⟨j, us, e2, e3⟩, fun q => ?_⟩
      subst q
      exact hj (r.dis j i us ws b e2 e e3 e1)
  have av : ∀ b, AV Z (st.env.set i (some (.val (.lst ws)))) σ b → AV Z st.env σ b := fun b z => z.elim .inl fun q => .inr (oe b q).1
  have na : ¬ AV Z (st.env.set i (some (.val (.lst ws)))) σ a := fun z => by
    rcases z with z | z
    · exact r.hid a ⟨i, ws, e, e1⟩ z
    · exact (oe a z).2 rfl
  have rep : Rep K φ (AV Z (st.env.set i (some (.val (.lst ws)))) σ) H (.lst ws) (.ref a) := rep_lst.mpr ⟨a, vs, rfl, ⟨h1, n1, na, z1⟩, rr.anti av⟩
  refine ⟨.ref a, e1, ⟨r.sto.anti av, by rw [List.length_set]; exact r.len, fun j s e2 => ?_, fun j k us us' b e2 e3 e4 e5 => ?_, fun b z => r.hid b (oe b z).1, r.zd⟩, rep, fun b z => (oe b z).1⟩
  · by_cases hj : j = i
    · subst hj
      rw [List.getElem?_set_self hi] at e2
      cases e2
      exact ⟨_, e1, .ref a, rfl, rep⟩
    · rw [List.getElem?_set_ne (Ne.symm hj)] at e2
      obtain ⟨v, e3, q⟩ := r.env j s e2
      exact ⟨v, e3, q.anti av⟩
  · have hj : j ≠ i := fun q => by subst q; rw [List.getElem?_set_self hi] at e2; cases e2
    have hk : k ≠ i := fun q => by subst q; rw [List.getElem?_set_self hi] at e3; cases e3
    rw [List.getElem?_set_ne (Ne.symm hj)] at e2
    rw [List.getElem?_set_ne (Ne.symm hk)] at e3
    exact r.dis j k us us' b e2 e3 e4 e5

theorem imp_var {i : Nat} : ∀ σ H Q, tI K ce Wx (evB C (.var i)).v σ H Q → tVar i σ H Q := by
  rintro σ H Q ⟨φ, Z, st, rel, o⟩
  simp only [evB, EB.of] at o
  cases e : st.env[i]? with
  | none => simp only [e] at o; exact o.elim
  | some s =>
    cases s with
    | none => simp only [e] at o; exact o.elim
    | some s =>
      cases s with
      | val w =>
        simp only [e] at o
        obtain ⟨v, e1, u, rfl, q⟩ := rel.env i _ e
        exact ⟨u, e1, o φ H .refl u ⟨rel, q⟩⟩
      | own ws =>
        simp only [e] at o
        obtain ⟨v, e1, r2, rep, oe⟩ := rel.freeze e
        exact ⟨v, e1, o φ H ⟨.refl, oe⟩ v ⟨r2, rep⟩⟩
theorem imp_varO {i : Nat} {r} : ∀ σ H Q, tO K ce Wx (opd (.var i) r) σ H Q → tVar i σ H Q := by
  rintro σ H Q ⟨φ, Z, st, rel, o⟩
  simp only [opd] at o
  cases e : st.env[i]? with
  | none => simp only [e] at o; exact o.elim
  | some s =>
    cases s with
    | none => simp only [e] at o; exact o.elim
    | some s =>
      simp only [e] at o
      obtain ⟨v, e1⟩ := rel.slot e
      exact ⟨v, e1, o φ H .refl rel v e1⟩
theorem imp_opd {m : ST → R RV} : ∀ σ H Q, tO K ce Wx (fun st => (m st).bind fun v st => .ok (.v v.w) st) σ H Q → tI K ce Wx m σ H Q := by
  rintro σ H Q ⟨φ, Z, st, rel, o⟩
  refine ⟨φ, Z, st, rel, o.bind fun r st1 φ1 H1 e s1 o1 v rr => ?_⟩
  obtain ⟨r1, r2⟩ := rr.val
  exact o1.ok r1 v r2
/-- a constant -/
theorem imp_c {w : W} {v : V} (hv : ∀ φ Z st σ H, Rel K φ Z st σ H → Rep K φ (AV Z st.env σ) H w v) : ∀ σ H Q, tI K ce Wx (fun st => .ok (.v w) st) σ H Q → tC v σ H Q := by
  rintro σ H Q ⟨φ, Z, st, rel, o⟩
  exact o φ H .refl v ⟨rel, hv φ Z st σ H rel⟩
/-- two operands -/
theorem imp_bin {f : W → W → Option RV} {oa ob : ST → R OV} : ∀ σ H Q, tI K ce Wx (bin1 f oa ob) σ H Q → tOp (rU K f) (tO K ce Wx oa) (tO K ce Wx ob) σ H Q := by
  rintro σ H Q ⟨φ, Z, st, rel, o⟩
  unfold bin1 at o
  refine ⟨φ, Z, st, rel, o.bind fun x st1 φ1 H1 e1 s1 o1 rel1 v1 ov1 => ?_⟩
  refine ⟨φ1, Z, st1, rel1, o1.bind fun y st2 φ2 H2 e2 s2 o2 rel2 v2 ov2 => ?_⟩
  cases d1 : derefV x st2 with
  | none => simp only [d1] at o2; exact o2.elim
  | some w1 =>
    cases d2 : derefV y st2 with
    | none => simp only [d1, d2] at o2; exact o2.elim
    | some w2 =>
      simp only [d1, d2] at o2
      cases ef : f w1 w2 with
      | none => simp only [ef] at o2; exact o2.elim
      | some r =>
        simp only [ef] at o2
        exact ⟨φ2, Z, st2, σ, w1, w2, r, H, (s1.trans s2).ext.dom, rel2, (ov1.step s2).topV rel2 d1, ov2.topV rel2 d2, ef, fun H' v s rr => o2 φ2 H' s v rr⟩
theorem emp_of {φ A H} {ws : List W} {vs : List V} (r : Reps K φ A H ws vs) : (!ws.isEmpty) = !vs.isEmpty := by
  have h := r.length
  cases ws <;> cases vs <;> simp at h <;> rfl
theorem truth_ok {φ A H} {w : W} {v : V} {b : Bool} (h : RT K φ A H w v) (e : truth w = some b) : TruV K v H b := by
  cases w <;> simp only [truth] at e <;> cases e
  · rw [h.non]; exact rfl
  · rw [h.bl]; exact rfl
  · rw [h.int]; exact rfl
  · obtain ⟨a, vs, rfl, t, r⟩ := h.tup
    exact .inr (.inl ⟨vs, t.sq, emp_of r⟩)
  · obtain ⟨a, vs, rfl, t, _, r⟩ := h.lst
    exact .inl ⟨vs, .of t, emp_of r⟩
/-- an operand as a test -/
theorem imp_tst {oa : ST → R OV} : ∀ σ H Q, tTst K ce Wx (fun st => tst (oa st)) σ H Q → (fun σ H Q => tO K ce Wx oa σ H fun x H' => ∃ k, TruV K x H' k ∧ Q k H') σ H Q := by
  rintro σ H Q ⟨φ, Z, st, rel, o⟩
  unfold tst at o
  refine ⟨φ, Z, st, rel, o.bind fun x st1 φ1 H1 e1 s1 o1 rel1 v1 ov1 => ?_⟩
  cases d1 : derefV x st1 with
  | none => simp only [d1] at o1; exact o1.elim
  | some w =>
    simp only [d1, Option.bind_some] at o1
    cases t : truth w with
    | none => simp only [t] at o1; exact o1.elim
    | some b =>
      simp only [t] at o1
      exact ⟨b, truth_ok (ov1.topV rel1 d1) t, o1.ok rel1⟩
/-- a comparison as a test -/
theorem imp_cmpT {e : IE} {f : W → W → Option Bool} {oa ob : ST → R OV} (he : ∀ i, e ≠ .var i) : ∀ σ H Q, tTst K ce Wx (fun st => tst (opd e (bin1 (fun v w => vB (f v w)) oa ob) st)) σ H Q →
    tTest (tOp (rU K fun v w => vB (f v w)) (tO K ce Wx oa) (tO K ce Wx ob)) σ H Q := by
  rintro σ H Q ⟨φ, Z, st, rel, o⟩
  refine imp_bin (ce := ce) (Wx := Wx) σ H _ ⟨φ, Z, st, rel, ?_⟩
  have eo : opd e (bin1 (fun v w => vB (f v w)) oa ob) st = (bin1 (fun v w => vB (f v w)) oa ob st).bind fun v st => .ok (.v v.w) st := by
    cases e <;> first | rfl | exact (he _ rfl).elim
  unfold tst at o
  dsimp only at o
  rw [eo] at o
  cases hb : bin1 (fun v w => vB (f v w)) oa ob st with
  | bad => rw [hb] at o; exact o
  | exn c fs st' => rw [hb] at o; exact o
  | ok r st1 =>
    rw [hb] at o
    have o : Out K ce Wx (fun φ' Z' st' H' b => Rel K φ' Z' st' σ H' → Q b H') φ Z st σ H (match (derefV (.v r.w) st1).bind truth with | some b => .ok b st1 | none => .bad) := o
    intro φ1 H1 s1 v1 rr
    obtain ⟨rel1, rep1⟩ := rr.val
    simp only [derefV, deref, Option.map_some, Option.bind_some] at o
    -- the value is a bool
    have isb : ∃ b, r = .v (.bl b) := by
      unfold bin1 at hb
      cases h1 : oa st with
      | bad => rw [h1] at hb; cases hb
      | exn => rw [h1] at hb; cases hb
      | ok x st2 =>
        rw [h1] at hb
        simp only [R.bind] at hb
        cases h2 : ob st2 with
        | bad => rw [h2] at hb; cases hb
        | exn => rw [h2] at hb; cases hb
        | ok y st3 =>
          rw [h2] at hb
          simp only at hb
          split at hb
          · split at hb
            · rename_i r' hr
              cases hb
              obtain ⟨b, _, e⟩ := vB_some hr
              exact ⟨b, e⟩
            · cases hb
          · cases hb
    obtain ⟨b, rfl⟩ := isb
    refine ⟨b, rep_bl.mp rep1, ?_⟩
    exact o φ1 H1 s1 rel1
/-- arguments -/
theorem imp_anil : ∀ σ H Q, tAr K ce Wx (evA C .nil) σ H Q → tNil σ H Q := by
  rintro σ H Q ⟨φ, Z, st, rel, o⟩
  simp only [evA] at o
  exact o.ok rel [] .nil
theorem imp_acons {e : IE} {r : IA} : ∀ σ H Q, tAr K ce Wx (evA C (.cons e r)) σ H Q → tCons (tI K ce Wx (evB C e).v) (tAr K ce Wx (evA C r)) σ H Q := by
  rintro σ H Q ⟨φ, Z, st, rel, o⟩
  simp only [evA] at o
  refine ⟨φ, Z, st, rel, o.bind fun x st1 φ1 H1 e1 s1 o1 v1 rr => ?_⟩
  obtain ⟨rel1, rep1⟩ := rr.val
  refine ⟨φ1, Z, st1, rel1, o1.bind fun xs st2 φ2 H2 e2 s2 o2 rel2 vs rs => ?_⟩
  exact o2.ok rel2 _ (.cons (s2.rep rep1) rs)
theorem imp_onil : ∀ σ H Q, tOs K ce Wx (evO C .nil) σ H Q → tNil σ H Q := by
  rintro σ H Q ⟨φ, Z, st, rel, o⟩
  simp only [evO] at o
  exact o.ok rel [] rfl
theorem OVs.step {φ φ' Z st st' H H'} {σ : St} (s : Step φ st σ H φ' st' H') : ∀ {os vs}, OVs K φ (AV Z st.env σ) H σ os vs → OVs K φ' (AV Z st'.env σ) H' σ os vs
  | [], _, h => h
  | o :: os, _, h => by
    obtain ⟨v, r, e, h1, h2⟩ := h
    exact ⟨v, r, e, h1.step s, OVs.step s h2⟩
theorem imp_ocons {e : IE} {r : IA} : ∀ σ H Q, tOs K ce Wx (evO C (.cons e r)) σ H Q → tCons (tO K ce Wx (opd e (evB C e).v)) (tOs K ce Wx (evO C r)) σ H Q := by
  rintro σ H Q ⟨φ, Z, st, rel, o⟩
  simp only [evO] at o
  refine ⟨φ, Z, st, rel, o.bind fun x st1 φ1 H1 e1 s1 o1 rel1 v1 ov1 => ?_⟩
  refine ⟨φ1, Z, st1, rel1, o1.bind fun xs st2 φ2 H2 e2 s2 o2 rel2 vs rs => ?_⟩
  exact o2.ok rel2 _ ⟨v1, vs, rfl, ov1.step s2, rs⟩
/-- RTs of a list of operands -/
def RTs (K : PySem.W.Frag) (φ : List Addr) (A : Addr → Prop) (H : Hp) : List W → List V → Prop
  | [], vs => vs = []
  | w :: ws, vs => ∃ v r, vs = v :: r ∧ RT K φ A H w v ∧ RTs K φ A H ws r
theorem OVs.top {φ Z st} {σ : St} {H} (rel : Rel K φ Z st σ H) : ∀ {os vs ws}, OVs K φ (AV Z st.env σ) H σ os vs → derefs st os = some ws → RTs K φ (AV Z st.env σ) H ws vs
  | [], _, _, h, e => by
    cases e
    exact h
  | o :: os, _, ws, h, e => by
    obtain ⟨v, r, e1, h1, h2⟩ := h
    unfold derefs at e
    cases d : derefV o st with
    | none => rw [d] at e; cases e
    | some w =>
      rw [d, Option.bind_some] at e
      obtain ⟨ws', e2, rfl⟩ := Option.map_eq_some_iff.mp e
      exact ⟨v, r, e1, h1.topV rel d, OVs.top rel h2 e2⟩
/-- displays -/
theorem imp_tup {a : IA} : ∀ σ H Q, tI K ce Wx (evB C (.tup a)).v σ H Q → tTup (tAr K ce Wx (evA C a)) σ H Q := by
  rintro σ H Q ⟨φ, Z, st, rel, o⟩
  simp only [evB, EB.of] at o
  refine ⟨φ, Z, st, rel, o.bind fun ws st1 φ1 H1 e1 s1 o1 rel1 vs rs => ?_⟩
  split at o1
  · rename_i hz
    have hz' : vs.length ≤ sizeLine := by rw [rs.length]; exact of_decide_eq_true hz
    refine ⟨hz', fun p hp => ?_⟩
    exact o1 φ1 _ (Step.upd hp) _ (RRep.newT rel1 hp rs hz')
  · exact o1.elim
theorem imp_lst {a : IA} : ∀ σ H Q, tI K ce Wx (evB C (.lst a)).v σ H Q → tLst (tAr K ce Wx (evA C a)) σ H Q := by
  rintro σ H Q ⟨φ, Z, st, rel, o⟩
  simp only [evB, EB.of] at o
  refine ⟨φ, Z, st, rel, o.bind fun ws st1 φ1 H1 e1 s1 o1 rel1 vs rs => ?_⟩
  split at o1
  · rename_i hz
    have hz' : vs.length ≤ sizeLine := by rw [rs.length]; exact of_decide_eq_true hz
    refine ⟨hz', fun p hp => ?_⟩
    exact o1 φ1 _ (Step.upd hp) _ (RRep.new s1.ext.dom rel1 hp rs hz')
  · exact o1.elim
/-- and, or, not, if: values -/
theorem imp_andV {a b : IE} : ∀ σ H Q, tI K ce Wx (evB C (.andE a b)).v σ H Q → tAndV (tI K ce Wx (evB C a).v) (tI K ce Wx (evB C b).v) σ H Q := by
  rintro σ H Q ⟨φ, Z, st, rel, o⟩
  simp only [evB] at o
  refine ⟨φ, Z, st, rel, o.bind fun r st1 φ1 H1 e1 s1 o1 v1 rr => ?_⟩
  split at o1
  · obtain ⟨rel1, rep1⟩ := rr
    refine ⟨true, rep_bl.mp rep1, ?_⟩
    rw [if_pos rfl]
    exact ⟨φ1, Z, st1, rel1, o1.imp fun _ _ _ _ _ h v rr => h v (rr.base s1.ext.dom)⟩
  · obtain ⟨rel1, rep1⟩ := rr
    refine ⟨false, rep_bl.mp rep1, ?_⟩
    rw [if_neg Bool.false_ne_true]
    exact o1.ok _ ⟨rel1, rep_bl.mpr rfl⟩
  · exact o1.elim
theorem imp_orV {a b : IE} : ∀ σ H Q, tI K ce Wx (evB C (.orE a b)).v σ H Q → tOrV (tI K ce Wx (evB C a).v) (tI K ce Wx (evB C b).v) σ H Q := by
  rintro σ H Q ⟨φ, Z, st, rel, o⟩
  simp only [evB] at o
  refine ⟨φ, Z, st, rel, o.bind fun r st1 φ1 H1 e1 s1 o1 v1 rr => ?_⟩
  split at o1
  · obtain ⟨rel1, rep1⟩ := rr
    refine ⟨true, rep_bl.mp rep1, ?_⟩
    rw [if_pos rfl]
    exact o1.ok _ ⟨rel1, rep_bl.mpr rfl⟩
  · obtain ⟨rel1, rep1⟩ := rr
    refine ⟨false, rep_bl.mp rep1, ?_⟩
    rw [if_neg Bool.false_ne_true]
    exact ⟨φ1, Z, st1, rel1, o1.imp fun _ _ _ _ _ h v rr => h v (rr.base s1.ext.dom)⟩
  · exact o1.elim
theorem imp_notV {a : IE} : ∀ σ H Q, tI K ce Wx (evB C (.notE a)).v σ H Q → tNotV (tI K ce Wx (evB C a).v) σ H Q := by
  rintro σ H Q ⟨φ, Z, st, rel, o⟩
  simp only [evB] at o
  refine ⟨φ, Z, st, rel, o.bind fun r st1 φ1 H1 e1 s1 o1 v1 rr => ?_⟩
  split at o1
  · obtain ⟨rel1, rep1⟩ := rr
    exact ⟨_, rep_bl.mp rep1, o1.ok _ ⟨rel1, rep_bl.mpr rfl⟩⟩
  · exact o1.elim
theorem imp_ifV {c a b : IE} : ∀ σ H Q, tI K ce Wx (evB C (.ifE c a b)).v σ H Q → tIf (tTst K ce Wx (evB C c).t) (tI K ce Wx (evB C a).v) (tI K ce Wx (evB C b).v) σ H Q := by
  rintro σ H Q ⟨φ, Z, st, rel, o⟩
  simp only [evB, EB.of] at o
  refine ⟨φ, Z, st, rel, o.bind fun k st1 φ1 H1 e1 s1 o1 rel1 => ?_⟩
  cases k with
  | true =>
    rw [if_pos rfl] at o1 ⊢
    refine ⟨φ1, Z, st1, rel1, o1.bind fun r st2 φ2 H2 e2 s2 o2 v2 rr => ?_⟩
    exact o2.ok _ rr.val
  | false =>
    rw [if_neg Bool.false_ne_true] at o1 ⊢
    refine ⟨φ1, Z, st1, rel1, o1.bind fun r st2 φ2 H2 e2 s2 o2 v2 rr => ?_⟩
    exact o2.ok _ rr.val
/-- .. tests -/
theorem imp_andT {a b : IE} : ∀ σ H Q, tTst K ce Wx (evB C (.andE a b)).t σ H Q → tAnd (tTst K ce Wx (evB C a).t) (tTst K ce Wx (evB C b).t) σ H Q := by
  rintro σ H Q ⟨φ, Z, st, rel, o⟩
  simp only [evB] at o
  refine ⟨φ, Z, st, rel, o.bind fun c st1 φ1 H1 e1 s1 o1 rel1 => ?_⟩
  cases c with
  | true =>
    rw [if_pos rfl] at o1 ⊢
    exact ⟨φ1, Z, st1, rel1, o1⟩
  | false =>
    rw [if_neg Bool.false_ne_true] at o1 ⊢
    exact o1.ok rel1
theorem imp_orT {a b : IE} : ∀ σ H Q, tTst K ce Wx (evB C (.orE a b)).t σ H Q → tOr (tTst K ce Wx (evB C a).t) (tTst K ce Wx (evB C b).t) σ H Q := by
  rintro σ H Q ⟨φ, Z, st, rel, o⟩
  simp only [evB] at o
  refine ⟨φ, Z, st, rel, o.bind fun c st1 φ1 H1 e1 s1 o1 rel1 => ?_⟩
  cases c with
  | true =>
    rw [if_pos rfl] at o1 ⊢
    exact o1.ok rel1
  | false =>
    rw [if_neg Bool.false_ne_true] at o1 ⊢
    exact ⟨φ1, Z, st1, rel1, o1⟩
theorem imp_notT {a : IE} : ∀ σ H Q, tTst K ce Wx (evB C (.notE a)).t σ H Q → tNot (tTst K ce Wx (evB C a).t) σ H Q := by
  rintro σ H Q ⟨φ, Z, st, rel, o⟩
  simp only [evB] at o
  refine ⟨φ, Z, st, rel, o.bind fun c st1 φ1 H1 e1 s1 o1 rel1 => ?_⟩
  exact o1.ok rel1
end
end LL

set_option Elab.async false
set_option linter.all false
set_option maxRecDepth 100000
set_option maxHeartbeats 2000000
/-! LLf: slices, calls, pop, comprehensions. -/
namespace LL
open PySem L2

/-! ### calls of defs -/
/-- a call's result -/
def RRepS (K : PySem.W.Frag) (φ : List Addr) (A : Addr → Prop) (H0 H : Hp) (S : List SO) : RV → V → Prop
  | .v w, v => RelS K φ A H S ∧ Rep K φ A H w v
  | .f ws, v => ∃ p vs, v = .ref p ∧ H0 p = none ∧ p ∉ φ ∧ ¬ A p ∧ H p = some (.lst vs) ∧ vs.length ≤ sizeLine ∧ RelS K φ (fun a => A a ∨ a = p) H S ∧ Reps K φ (fun a => A a ∨ a = p) H ws vs
/-- the promise of a def: what the interpreter says of it -/
def spC (K : PySem.W.Frag) (ce : Nat → Option Addr) (C : CT) (f : Nat) (n : Nat) : Sp := fun vs H Q E => vs.length = n ∧ ∃ φ A S ws, RelS K φ A H S ∧ (∀ a, A a → ∃ o, H a = some o) ∧ Reps K φ A H ws vs ∧ match C f ws S with
  | .ok r S' => ∀ φ' H' v, Ext φ (fun _ => False) H φ' H' → RRepS K φ' A H H' S' r v → Q v H'
  | .exn c fs S' => ∀ φ' H' cls d, Ext φ (fun _ => False) H φ' H' → RelS K φ' A H' S' → ExnR K ce φ' A H' c fs cls d → E cls d H'
  | .bad => False
section
variable {K : PySem.W.Frag} {ce : Nat → Option Addr} {Wx : WX} {C : CT}
/-- behind a call: the frame's own things stand -/
theorem Rel.after {φ φ' Z st} {σ : St} {H H'} {S'} (r : Rel K φ Z st σ H) (e : Ext φ (fun _ => False) H φ' H') (s : RelS K φ' (AV Z st.env σ) H' S') : Rel K φ' Z { st with sto := S' } σ H' := by
  refine ⟨s, r.len, fun i sl e1 => ?_, r.dis, r.hid, fun a z => ?_⟩
  · obtain ⟨v, e2, q⟩ := r.env i sl e1
    refine ⟨v, e2, ?_⟩
    cases sl with
    | val w =>
      obtain ⟨u, e3, rr⟩ := q
      exact ⟨u, e3, rr.ext e fun _ z => z.elim⟩
    | own ws =>
      obtain ⟨a, vs, e3, n, h, z, rr⟩ := q
      exact ⟨a, vs, e3, e.notin h n, e.frm a _ h n (fun z => z), z, rr.ext e fun _ z => z.elim⟩
  · obtain ⟨o, q⟩ := r.zd a z
    exact e.dom a o q
def IA.len : IA → Nat
  | .nil => 0
  | .cons _ r => r.len + 1
theorem evA_len : ∀ {a : IA} {st st' : ST} {ws : List W}, evA C a st = .ok ws st' → ws.length = a.len
  | .nil, st, st', ws, h => by
    simp only [evA] at h
    cases h; rfl
  | .cons e r, st, st', ws, h => by
    simp only [evA] at h
    cases h1 : (evB C e).v st with
    | bad => rw [h1] at h; cases h
    | exn => rw [h1] at h; cases h
    | ok x st1 =>
      rw [h1] at h
      simp only [R.bind] at h
      cases h2 : evA C r st1 with
      | bad => rw [h2] at h; cases h
      | exn => rw [h2] at h; cases h
      | ok xs st2 =>
        rw [h2] at h
        cases h
        rw [List.length_cons, evA_len h2]; rfl
theorem imp_call {f : Nat} {a : IA} : ∀ σ H Q, tI K ce Wx (evB C (.call f a)).v σ H Q → tCallS (spC K ce C f a.len) (WE Wx) (tAr K ce Wx (evA C a)) σ H Q := by
  rintro σ H Q ⟨φ, Z, st, rel, o⟩
  simp only [evB, EB.of] at o
  refine ⟨φ, Z, st, rel, o.bind fun ws st1 φ1 H1 e1 s1 o1 rel1 vs rs => ?_⟩
  refine ⟨by rw [rs.length]; exact evA_len e1, φ1, AV Z st1.env σ, st1.sto, ws, rel1.sto, fun b z => ?_, rs, ?_⟩
  · rcases z with z | ⟨i, us, e2, e3⟩
    · exact rel1.zd b z
    · obtain ⟨v, e4, b', xs, e5, _, h, _⟩ := rel1.env i _ e2
      rw [e3] at e4; cases e4; cases e5
      exact ⟨_, h⟩
  · cases hc : C f ws st1.sto with
    | bad => rw [hc] at o1; exact o1.elim
    | exn c fs S' =>
      rw [hc] at o1
      intro φ' H' cls d e s' x
      exact o1 φ' H' cls d ⟨e.weak fun _ z => z.elim, fun _ z => z⟩ (rel1.after e s') x
    | ok r S' =>
      rw [hc] at o1
      intro φ' H' v e rr
      refine o1 φ' H' ⟨e.weak fun _ z => z.elim, fun _ z => z⟩ v ?_
      cases r with
      | v w => exact ⟨rel1.after e rr.1, rr.2⟩
      | f us =>
        obtain ⟨p, xs, rfl, h0, n1, n2, h1, z1, s1', r1⟩ := rr
        have k : ∀ a, AV (fun a => Z a ∨ a = p) st1.env σ a → AV Z st1.env σ a ∨ a = p := fun a z => by
          rcases z with (z | z) | z
          · exact .inl (.inl z)
          · exact .inr z
          · exact .inl (.inr z)
        have base := rel1.after e (s1'.anti fun a z => .inl z)
        refine ⟨p, xs, rfl, Dm.none s1.ext.dom h0, n1, n2, h1, z1, ⟨s1'.anti k, base.len, fun i sl e2 => ?_, base.dis, fun b z q => ?_, fun b z => ?_⟩, r1.anti k⟩
        · -- what the frame holds avoids the new list: it stood before
          obtain ⟨v, e3, q⟩ := rel1.env i sl e2
          refine ⟨v, e3, ?_⟩
          have up : ∀ {w : W} {u : V}, Rep K φ1 (AV Z st1.env σ) H1 w u → Rep K φ' (AV (fun a => Z a ∨ a = p) st1.env σ) H' w u := fun {w u} h =>
            (Rep.ext e (fun _ z => z.elim) (h.apart h0)).anti k
          have ups : ∀ {w : List W} {u : List V}, Reps K φ1 (AV Z st1.env σ) H1 w u → Reps K φ' (AV (fun a => Z a ∨ a = p) st1.env σ) H' w u := fun {w u} h =>
            (Reps.ext e (fun _ z => z.elim) (h.apart h0)).anti k
          cases sl with
          | val w =>
            obtain ⟨u, e4, rr⟩ := q
            exact ⟨u, e4, up rr⟩
          | own ws =>
            obtain ⟨a, vs, e4, n, h, z, rr⟩ := q
            exact ⟨a, vs, e4, e.notin h n, e.frm a _ h n (fun z => z), z, ups rr⟩
        · rcases q with q | q
          · exact base.hid b z q
          · subst q
            exact n2 (.inr z)
        · rcases z with z | z
          · exact base.zd b z
          · exact ⟨_, by rw [z]; exact h1⟩
end

/-! ### slices -/
section
variable {K : PySem.W.Frag} {ce : Nat → Option Addr} {Wx : WX} {C : CT}
theorem toI_int {φ A H} {w : W} {v : V} {i : Int} (h : RT K φ A H w v) (e : toI w = some i) : v = .int i := by
  cases w <;> simp only [toI] at e <;> cases e
  exact h.int
theorem imp_from {oa ob : ST → R OV} : ∀ σ H Q, tI K ce Wx (bin1 (fun v w => (toI w).bind fun i => slc2 (some i) none v) oa ob) σ H Q → tSl (rUs K) (tO K ce Wx oa) (tPart (tO K ce Wx ob)) tNoPart σ H Q := by
  rintro σ H Q ⟨φ, Z, st, rel, o⟩
  unfold bin1 at o
  refine ⟨φ, Z, st, rel, o.bind fun x st1 φ1 H1 e1 s1 o1 rel1 v1 ov1 => ?_⟩
  refine ⟨φ1, Z, st1, rel1, o1.bind fun y st2 φ2 H2 e2 s2 o2 rel2 v2 ov2 => ?_⟩
  cases d1 : derefV x st2 with
  | none => simp only [d1] at o2; exact o2.elim
  | some w1 =>
    cases d2 : derefV y st2 with
    | none => simp only [d1, d2] at o2; exact o2.elim
    | some w2 =>
      simp only [d1, d2] at o2
      cases ei : toI w2 with
      | none => simp only [ei, Option.bind_none] at o2; exact o2.elim
      | some i =>
        simp only [ei, Option.bind_some] at o2
        cases ef : slc2 (some i) none w1 with
        | none => simp only [ef] at o2; exact o2.elim
        | some r =>
          simp only [ef] at o2
          exact ⟨i, toI_int (ov2.topV rel2 d2) ei, φ2, Z, st2, σ, w1, r, H, (s1.trans s2).ext.dom, rel2, (ov1.step s2).topV rel2 d1, ef, fun H' v s rr => o2 φ2 H' s v rr⟩
theorem imp_upto {oa ob : ST → R OV} : ∀ σ H Q, tI K ce Wx (bin1 (fun v w => (toI w).bind fun i => slc2 none (some i) v) oa ob) σ H Q → tSl (rUs K) (tO K ce Wx oa) tNoPart (tPart (tO K ce Wx ob)) σ H Q := by
  rintro σ H Q ⟨φ, Z, st, rel, o⟩
  unfold bin1 at o
  refine ⟨φ, Z, st, rel, o.bind fun x st1 φ1 H1 e1 s1 o1 rel1 v1 ov1 => ?_⟩
  refine ⟨φ1, Z, st1, rel1, o1.bind fun y st2 φ2 H2 e2 s2 o2 rel2 v2 ov2 => ?_⟩
  cases d1 : derefV x st2 with
  | none => simp only [d1] at o2; exact o2.elim
  | some w1 =>
    cases d2 : derefV y st2 with
    | none => simp only [d1, d2] at o2; exact o2.elim
    | some w2 =>
      simp only [d1, d2] at o2
      cases ei : toI w2 with
      | none => simp only [ei, Option.bind_none] at o2; exact o2.elim
      | some i =>
        simp only [ei, Option.bind_some] at o2
        cases ef : slc2 none (some i) w1 with
        | none => simp only [ef] at o2; exact o2.elim
        | some r =>
          simp only [ef] at o2
          exact ⟨i, toI_int (ov2.topV rel2 d2) ei, φ2, Z, st2, σ, w1, r, H, (s1.trans s2).ext.dom, rel2, (ov1.step s2).topV rel2 d1, ef, fun H' v s rr => o2 φ2 H' s v rr⟩
theorem imp_cut {oa ob oc : ST → R OV} : ∀ σ H Q, tI K ce Wx (cut1 oa ob oc) σ H Q → tSl (rUs K) (tO K ce Wx oa) (tPart (tO K ce Wx ob)) (tPart (tO K ce Wx oc)) σ H Q := by
  rintro σ H Q ⟨φ, Z, st, rel, o⟩
  unfold cut1 at o
  refine ⟨φ, Z, st, rel, o.bind fun x st1 φ1 H1 e1 s1 o1 rel1 v1 ov1 => ?_⟩
  refine ⟨φ1, Z, st1, rel1, o1.bind fun y st2 φ2 H2 e2 s2 o2 rel2 v2 ov2 => ?_⟩
  cases d2 : derefV y st2 with
  | none => simp only [d2, Option.bind_none] at o2; exact o2.elim
  | some w2 =>
    cases ei : toI w2 with
    | none => simp only [d2, ei, Option.bind_some] at o2; exact o2.elim
    | some i =>
      simp only [d2, ei, Option.bind_some] at o2
      refine ⟨i, toI_int (ov2.topV rel2 d2) ei, φ2, Z, st2, rel2, o2.bind fun z st3 φ3 H3 e3 s3 o3 rel3 v3 ov3 => ?_⟩
      cases d1 : derefV x st3 with
      | none => simp only [d1] at o3; exact o3.elim
      | some w1 =>
        cases d3 : derefV z st3 with
        | none => simp only [d1, d3, Option.bind_none] at o3; exact o3.elim
        | some w3 =>
          cases ej : toI w3 with
          | none => simp only [d1, d3, ej, Option.bind_some] at o3; exact o3.elim
          | some j =>
            simp only [d1, d3, ej, Option.bind_some] at o3
            cases ef : slc2 (some i) (some j) w1 with
            | none => simp only [ef] at o3; exact o3.elim
            | some r =>
              simp only [ef] at o3
              exact ⟨j, toI_int (ov3.topV rel3 d3) ej, φ3, Z, st3, σ, w1, r, H, ((s1.trans s2).trans s3).ext.dom, rel3, ((ov1.step s2).step s3).topV rel3 d1, ef, fun H' v s rr => o3 φ3 H' s v rr⟩
theorem imp_rev {oa : ST → R OV} : ∀ σ H Q, tI K ce Wx (fun st => un1 (fun v => match v with | .lst xs => some (.f xs.reverse) | _ => none) (oa st)) σ H Q → tRevL K (tO K ce Wx oa) σ H Q := by
  rintro σ H Q ⟨φ, Z, st, rel, o⟩
  unfold un1 at o
  refine ⟨φ, Z, st, rel, o.bind fun x st1 φ1 H1 e1 s1 o1 rel1 v1 ov1 => ?_⟩
  cases d1 : derefV x st1 with
  | none => simp only [d1] at o1; exact o1.elim
  | some w =>
    simp only [d1, Option.bind_some] at o1
    cases w with
    | lst xs =>
      simp only at o1
      obtain ⟨a, vs, rfl, t, z, rr⟩ := (ov1.topV rel1 d1).lst
      exact ⟨a, vs, rfl, .of t, fun p hp => o1 φ1 _ (Step.upd hp) _ (RRep.new s1.ext.dom rel1 hp rr.rev (by rw [List.length_reverse]; exact z))⟩
    | _ => exact o1.elim
/-! ### words, types -/
theorem strsW_eq : ∀ {ws : List W} {xs : List Str}, strsW ws = some xs → ws = xs.map W.str
  | [], xs, h => by cases h; rfl
  | w :: ws, xs, h => by
    cases w with
    | str x =>
      simp only [strsW] at h
      cases e : strsW ws with
      | none => rw [e] at h; cases h
      | some ys =>
        rw [e] at h
        cases h
        rw [strsW_eq e]; rfl
    | _ => cases h
theorem reps_strs : ∀ {xs : List Str} {φ : List Addr} {A : Addr → Prop} {H : Hp}, (∀ x ∈ xs, PyData.strOk x = true) → Reps K φ A H (xs.map W.str) (xs.map V.str)
  | [], _, _, _, _ => .nil
  | x :: xs, _, _, _, h => .cons (rep_str.mpr ⟨rfl, h x List.mem_cons_self⟩) (reps_strs fun y hy => h y (List.mem_cons_of_mem _ hy))
theorem imp_setLen {oa : ST → R OV} : ∀ σ H Q, tI K ce Wx (fun st => un1 (fun v => match v with
    | .tup xs => (strsW xs).bind fun ys => if decide (ys.length + 1 < scanBound) then some (.v (.int (news ys ys.length : Nat))) else none
    | _ => none) (oa st)) σ H Q → tLenW K (tO K ce Wx oa) σ H Q := by
  rintro σ H Q ⟨φ, Z, st, rel, o⟩
  unfold un1 at o
  refine ⟨φ, Z, st, rel, o.bind fun x st1 φ1 H1 e1 s1 o1 rel1 v1 ov1 => ?_⟩
  cases d1 : derefV x st1 with
  | none => simp only [d1] at o1; exact o1.elim
  | some w =>
    simp only [d1, Option.bind_some] at o1
    cases w with
    | tup xs =>
      simp only at o1
      cases es : strsW xs with
      | none => simp only [es] at o1; exact o1.elim
      | some ys =>
        simp only [es, Option.bind_some] at o1
        obtain ⟨a, vs, rfl, t, rr⟩ := (ov1.topV rel1 d1).tup
        obtain ⟨rfl, _⟩ := rr.strs (strsW_eq es)
        by_cases hz : ys.length + 1 < scanBound
        · rw [if_pos (decide_eq_true hz)] at o1
          exact ⟨a, ys, rfl, t.sq, hz, o1.ok _ ⟨rel1, rep_int.mpr rfl⟩⟩
        · rw [if_neg (by simpa using hz)] at o1
          exact o1.elim
    | _ => exact o1.elim
def tyW : W → String
  | .non => "NoneType"
  | .bl _ => "bool"
  | .int _ => "int"
  | .str _ => "str"
  | .tup _ => "tuple"
  | _ => "list"
def tnS : Tn → String
  | .tuple => "tuple"
  | .list => "list"
  | .str => "str"
  | .int => "int"
  | .bool => "bool"
theorem kit_tn : ∀ (w : W) (t : Tn), kitB (tyW w) (tnS t) = some (isTn w t)
  | .non, .tuple => show kitB "NoneType" "tuple" = some false by decide +kernel
  | .non, .list => show kitB "NoneType" "list" = some false by decide +kernel
  | .non, .str => show kitB "NoneType" "str" = some false by decide +kernel
  | .non, .int => show kitB "NoneType" "int" = some false by decide +kernel
  | .non, .bool => show kitB "NoneType" "bool" = some false by decide +kernel
  | .bl b, .tuple => show kitB "bool" "tuple" = some false by decide +kernel
  | .bl b, .list => show kitB "bool" "list" = some false by decide +kernel
  | .bl b, .str => show kitB "bool" "str" = some false by decide +kernel
  | .bl b, .int => show kitB "bool" "int" = some true by decide +kernel
  | .bl b, .bool => show kitB "bool" "bool" = some true by decide +kernel
  | .int i, .tuple => show kitB "int" "tuple" = some false by decide +kernel
  | .int i, .list => show kitB "int" "list" = some false by decide +kernel
  | .int i, .str => show kitB "int" "str" = some false by decide +kernel
  | .int i, .int => show kitB "int" "int" = some true by decide +kernel
  | .int i, .bool => show kitB "int" "bool" = some false by decide +kernel
  | .str x, .tuple => show kitB "str" "tuple" = some false by decide +kernel
  | .str x, .list => show kitB "str" "list" = some false by decide +kernel
  | .str x, .str => show kitB "str" "str" = some true by decide +kernel
  | .str x, .int => show kitB "str" "int" = some false by decide +kernel
  | .str x, .bool => show kitB "str" "bool" = some false by decide +kernel
  | .tup x, .tuple => show kitB "tuple" "tuple" = some true by decide +kernel
  | .tup x, .list => show kitB "tuple" "list" = some false by decide +kernel
  | .tup x, .str => show kitB "tuple" "str" = some false by decide +kernel
  | .tup x, .int => show kitB "tuple" "int" = some false by decide +kernel
  | .tup x, .bool => show kitB "tuple" "bool" = some false by decide +kernel
  | .lst x, .tuple => show kitB "list" "tuple" = some false by decide +kernel
  | .lst x, .list => show kitB "list" "list" = some true by decide +kernel
  | .lst x, .str => show kitB "list" "str" = some false by decide +kernel
  | .lst x, .int => show kitB "list" "int" = some false by decide +kernel
  | .lst x, .bool => show kitB "list" "bool" = some false by decide +kernel
  | .ref n, .tuple => show kitB "list" "tuple" = some false by decide +kernel
  | .ref n, .list => show kitB "list" "list" = some true by decide +kernel
  | .ref n, .str => show kitB "list" "str" = some false by decide +kernel
  | .ref n, .int => show kitB "list" "int" = some false by decide +kernel
  | .ref n, .bool => show kitB "list" "bool" = some false by decide +kernel
  | .scr x, .tuple => show kitB "list" "tuple" = some false by decide +kernel
  | .scr x, .list => show kitB "list" "list" = some true by decide +kernel
  | .scr x, .str => show kitB "list" "str" = some false by decide +kernel
  | .scr x, .int => show kitB "list" "int" = some false by decide +kernel
  | .scr x, .bool => show kitB "list" "bool" = some false by decide +kernel
theorem RT.ty {φ : List Addr} {Z : Addr → Prop} {st : ST} {σ : St} {H : Hp} (r : Rel K φ Z st σ H) : ∀ {w : W} {v : V}, RT K φ (AV Z st.env σ) H w v → TyX K H v (.type (tyW w))
  | .non, v, h => by rw [h.non]; exact .base .non
  | .bl b, v, h => by rw [h.bl]; exact .base (.bl b)
  | .int i, v, h => by rw [h.int]; exact .base (.int i)
  | .str s, v, h => by rw [h.str.1]; exact .base (.str s)
  | .tup ws, v, h => by
    obtain ⟨a, vs, rfl, t, _⟩ := h.tup
    rcases t.1 with t | ⟨o, its, n, h1, h2, _⟩
    · exact .base (.tup t)
    · exact .kTuple h1 h2
  | .lst ws, v, h => by
    obtain ⟨a, vs, rfl, t, _⟩ := h.lst
    exact .base (.lst t)
  | .ref n, v, h => by
    rcases h with h | ⟨_, _, _, h, _⟩
    · obtain ⟨a, ea, rfl⟩ := rep_ref.mp h
      have hn : n < st.sto.length := by rw [← r.sto.len]; exact (List.getElem?_eq_some_iff.mp ea).1
      have q := r.sto.obj n a _ ea (List.getElem?_eq_getElem hn)
      cases hs : st.sto[n] with
      | lst us =>
        rw [hs] at q
        obtain ⟨xs, q, _⟩ := q
        exact .base (.lst q)
    · cases h
  | .scr ns, v, h => by
    obtain ⟨a, rfl, t⟩ := h.scr
    rcases t with ⟨o, u, h1, _, _, rfl⟩ | ⟨o, its, n, h1, h2, _⟩
    · exact .base (.frz h1)
    · exact .kList h1 h2
theorem imp_isT {t : Tn} {oa : ST → R OV} : ∀ σ H Q, tI K ce Wx (fun st => un1 (fun v => some (.v (.bl (isTn v t)))) (oa st)) σ H Q → tCB (rIsi K) (tCons (tO K ce Wx oa) (tCons (tC (.ty (tnS t))) tNil)) σ H Q := by
  rintro σ H Q ⟨φ, Z, st, rel, o⟩
  unfold un1 at o
  refine ⟨φ, Z, st, rel, o.bind fun x st1 φ1 H1 e1 s1 o1 rel1 v1 ov1 => ?_⟩
  cases d1 : derefV x st1 with
  | none => simp only [d1] at o1; exact o1.elim
  | some w =>
    simp only [d1, Option.bind_some] at o1
    exact ⟨v1, .ty (tnS t), _, _, isTn w t, rfl, .ty _, (ov1.topV rel1 d1).ty rel1, kit_ty (kit_tn w t), o1.ok _ ⟨rel1, rep_bl.mpr rfl⟩⟩
/-! ### built-in functions -/
def rUc (K : PySem.W.Frag) (f : Bf) : List V → Hp → VK → Prop := fun vs H Q => ∃ φ Z st σ ws r B, Dm B H ∧ Rel K φ Z st σ H ∧ RTs K φ (AV Z st.env σ) H ws vs ∧ blt1 f ws = some r ∧ ∀ H' v, Step φ st σ H φ st H' → RRep K B φ Z st σ H' r v → Q v H'
theorem imp_blt {f : Bf} {a : IA} : ∀ σ H Q, tI K ce Wx (evB C (.blt f a)).v σ H Q → tCB (rUc K f) (tOs K ce Wx (evO C a)) σ H Q := by
  rintro σ H Q ⟨φ, Z, st, rel, o⟩
  simp only [evB, EB.of] at o
  refine ⟨φ, Z, st, rel, o.bind fun os st1 φ1 H1 e1 s1 o1 rel1 vs rs => ?_⟩
  cases d : derefs st1 os with
  | none => simp only [d, Option.bind_none] at o1; exact o1.elim
  | some ws =>
    simp only [d, Option.bind_some] at o1
    cases ef : blt1 f ws with
    | none => simp only [ef] at o1; exact o1.elim
    | some r =>
      simp only [ef] at o1
      exact ⟨φ1, Z, st1, σ, ws, r, H, s1.ext.dom, rel1, rs.top rel1 d, ef, fun H' v s rr => o1 φ1 H' s v rr⟩
theorem rts1 {φ A H} {w : W} {vs : List V} (h : RTs K φ A H [w] vs) : ∃ v, vs = [v] ∧ RT K φ A H w v := by
  obtain ⟨v, r, rfl, h1, h2⟩ := h
  have : r = [] := h2
  subst this
  exact ⟨v, rfl, h1⟩
end
section
variable {X : Cx}
theorem bu_len : CallR X (.builtin "len") (rUc X.K .len) := by
  intro pins s σ H vs us Q I r h
  obtain ⟨φ, Z, st, σ', ws, rv, B, dm, rel, h1, e, q⟩ := h
  match ws, e with
  | [.tup xs], e =>
    cases e
    obtain ⟨v, rfl, h2⟩ := rts1 h1
    obtain ⟨a, xs', rfl, t, rr⟩ := h2.tup
    refine call_len_seq pins s σ H _ us Q I r ⟨a, xs', rfl, .inr t.sq, ?_⟩
    rw [rr.length]
    exact q H _ .refl ⟨rel, rep_int.mpr rfl⟩
  | [.lst xs], e =>
    cases e
    obtain ⟨v, rfl, h2⟩ := rts1 h1
    obtain ⟨a, xs', rfl, t, _, rr⟩ := h2.lst
    refine call_len_seq pins s σ H _ us Q I r ⟨a, xs', rfl, .inl (.of t), ?_⟩
    rw [rr.length]
    exact q H _ .refl ⟨rel, rep_int.mpr rfl⟩
  | [.scr ns], e =>
    cases e
    obtain ⟨v, rfl, h2⟩ := rts1 h1
    obtain ⟨a, rfl, t⟩ := h2.scr
    refine call_len_seq pins s σ H _ us Q I r ⟨a, _, rfl, .inl t.sq, ?_⟩
    rw [List.length_map]
    exact q H _ .refl ⟨rel, rep_int.mpr rfl⟩
theorem bu_int : CallR X (.type "int") (rUc X.K .int) := by
  intro pins s σ H vs us Q I r h
  obtain ⟨φ, Z, st, σ', ws, rv, B, dm, rel, h1, e, q⟩ := h
  match ws, e with
  | [.int i], e =>
    cases e
    obtain ⟨v, rfl, h2⟩ := rts1 h1
    refine call_int1 pins s σ H _ us Q I r (.inl ⟨i, by rw [h2.int], q H _ .refl ⟨rel, rep_int.mpr rfl⟩⟩)
theorem bu_tuple : CallR X (.type "tuple") (rUc X.K .tuple) := by
  intro pins s σ H vs us Q I r h
  obtain ⟨φ, Z, st, σ', ws, rv, B, dm, rel, h1, e, q⟩ := h
  match ws, e with
  | [.tup xs], e =>
    cases e
    obtain ⟨v, rfl, h2⟩ := rts1 h1
    obtain ⟨a, xs', rfl, t, rr⟩ := h2.tup
    exact call_tuple_of pins s σ H _ us Q I r ⟨a, xs', rfl, .inr ⟨t.sq, q H _ .refl ⟨rel, rep_tup.mpr ⟨a, xs', rfl, t, rr⟩⟩⟩⟩
  | [.lst xs], e =>
    cases e
    obtain ⟨v, rfl, h2⟩ := rts1 h1
    obtain ⟨a, xs', rfl, t, z, rr⟩ := h2.lst
    exact call_tuple_of pins s σ H _ us Q I r ⟨a, xs', rfl, .inl ⟨.of t, fun p hp => q _ _ (Step.upd hp) (RRep.newT rel hp rr z)⟩⟩
theorem bu_list : CallR X (.type "list") (rUc X.K .list) := by
  intro pins s σ H vs us Q I r h
  obtain ⟨φ, Z, st, σ', ws, rv, B, dm, rel, h1, e, q⟩ := h
  match ws, e with
  | [.tup xs], e =>
    cases e
    obtain ⟨v, rfl, h2⟩ := rts1 h1
    obtain ⟨a, xs', rfl, t, rr⟩ := h2.tup
    exact call_list_of pins s σ H _ us Q I r ⟨a, xs', rfl, .inr t.sq, fun p hp => q _ _ (Step.upd hp) (RRep.new dm rel hp rr t.2)⟩
  | [.lst xs], e =>
    cases e
    obtain ⟨v, rfl, h2⟩ := rts1 h1
    obtain ⟨a, xs', rfl, t, z, rr⟩ := h2.lst
    exact call_list_of pins s σ H _ us Q I r ⟨a, xs', rfl, .inl (.of t), fun p hp => q _ _ (Step.upd hp) (RRep.new dm rel hp rr z)⟩
theorem bu_sorted : CallR X (.builtin "sorted") (rUc X.K .sorted) := by
  intro pins s σ H vs us Q I r h
  obtain ⟨φ, Z, st, σ', ws, rv, B, dm, rel, h1, e, q⟩ := h
  match ws, e with
  | [x], e =>
    simp only [blt1] at e
    cases ei : items x with
    | none => rw [ei] at e; cases e
    | some xs =>
      rw [ei] at e
      simp only [Option.bind_some] at e
      cases es : strsW xs with
      | none => rw [es] at e; cases e
      | some ys =>
        rw [es] at e
        cases e
        obtain ⟨v, rfl, h2⟩ := rts1 h1
        obtain ⟨a, us', rfl, sq, hz, rr⟩ := h2.items ei
        obtain ⟨rfl, ok⟩ := rr.strs (strsW_eq es)
        refine cr_sortW pins s σ H _ us Q I r ⟨a, ys, rfl, sq, fun zs p hp hs h0 hl => ?_⟩
        obtain rfl := srt_uniq hp (sorted_pw hs)
        exact q _ _ (Step.upd h0) (RRep.new dm rel h0 (reps_strs fun z hz => ok z (hp.mem_iff.mp hz)) (by rw [List.length_map, hp.length_eq]; exact hl))
end
end LL

set_option Elab.async false
set_option linter.all false
set_option maxRecDepth 100000
set_option maxHeartbeats 2000000
/-! LLg: a slot's list is written; what loops walk; comprehensions. -/
namespace LL
open PySem L2

section
variable {K : PySem.W.Frag} {ce : Nat → Option Addr} {Wx : WX} {C : CT}
theorem ObjAt.put {φ A H} {so : SO} {a p : Addr} {o xs} (h : ObjAt K φ A H so a) (h0 : H p = some (.lst xs)) (hp : A p ∨ p ∈ φ) (ne : a ≠ p) : ObjAt K φ A (L2.upd H p o) so a := by
  cases so with
  | lst ws =>
    obtain ⟨vs, h1, h2, h3⟩ := h
    exact ⟨vs, by rw [upd_ne ne]; exact h1, h2, h3.put h0 hp⟩
theorem SlotOk.put {φ A H} {sl : Sl} {v : Option V} {p : Addr} {o xs} (h : SlotOk K φ A H sl v) (h0 : H p = some (.lst xs)) (hp : A p ∨ p ∈ φ) (ne : ∀ ws, sl = .own ws → v ≠ some (.ref p)) : SlotOk K φ A (L2.upd H p o) sl v := by
  cases sl with
  | val w =>
    obtain ⟨u, e, q⟩ := h
    exact ⟨u, e, q.put h0 hp⟩
  | own ws =>
    obtain ⟨a, vs, e, n, h1, z, r⟩ := h
    have : a ≠ p := fun q => ne ws rfl (by rw [e, q])
    exact ⟨a, vs, e, n, by rw [upd_ne this]; exact h1, z, r.put h0 hp⟩
/-- the list of slot i is written -/
theorem Rel.mut {φ Z st} {σ : St} {H} {i : Nat} {ws ws' : List W} {a : Addr} {vs vs' : List V} (r : Rel K φ Z st σ H) (e : st.env[i]? = some (some (.own ws))) (es : σ[i]? = some (some (.ref a))) (h0 : H a = some (.lst vs))
    (rr : Reps K φ (AV Z st.env σ) H ws' vs') (hz : vs'.length ≤ sizeLine) :
    Rel K φ Z { st with env := st.env.set i (some (.own ws')) } σ (L2.upd H a (.lst vs')) ∧ Step φ st σ H φ { st with env := st.env.set i (some (.own ws')) } (L2.upd H a (.lst vs')) := by
  have hi : i < st.env.length := (List.getElem?_eq_some_iff.mp e).1
  have nf : a ∉ φ := by
    obtain ⟨v, e1, a', xs, e2, n, _⟩ := r.env i _ e
    rw [es] at e1; cases e1; cases e2
    exact n
  have oe1 : ∀ b, OE (st.env.set i (some (.own ws'))) σ b → OE st.env σ b := fun b ⟨j, us, e2, e3⟩ => by
    by_cases hj : j = i
    · subst hj
      rw [es] at e3; cases e3
      exact ⟨j, ws, e, es⟩
    · rw [List.getElem?_set_ne (Ne.symm hj)] at e2
      exact ⟨j, us, e2, e3⟩
  have oe2 : ∀ b, OE st.env σ b → OE (st.env.set i (some (.own ws'))) σ b := fun b ⟨j, us, e2, e3⟩ => by
    by_cases hj : j = i
    · subst hj
      exact ⟨j, ws', List.getElem?_set_self hi, e3⟩
    · exact ⟨j, us, by rw [List.getElem?_set_ne (Ne.symm hj)]; exact e2, e3⟩
  have av : ∀ b, AV Z (st.env.set i (some (.own ws'))) σ b → AV Z st.env σ b := fun b z => z.elim .inl fun q => .inr (oe1 b q)
  have ina : AV Z st.env σ a := .inr ⟨i, ws, e, es⟩
  refine ⟨⟨⟨r.sto.len, r.sto.nd, fun b m z => r.sto.av b m (av b z), fun n b so e1 e2 => ?_⟩, by rw [List.length_set]; exact r.len, fun j s e2 => ?_, fun j k us us' b e2 e3 e4 e5 => ?_, fun b z => r.hid b (oe1 b z), fun b z => ?_⟩,
    ⟨⟨⟨[], by simp⟩, fun _ m => .inl m, fun b o q => ?_, fun b xs q => ?_, fun b o q _ nb => ?_⟩, oe1⟩⟩
  · have q := (r.sto.obj n b so e1 e2).put (o := .lst vs') h0 (.inl ina) fun z => nf (by rw [← z]; exact List.mem_of_getElem? e1)
    cases so with
    | lst us =>
      obtain ⟨xs, q1, q2, q3⟩ := q
      exact ⟨xs, q1, q2, q3.anti av⟩
  · by_cases hj : j = i
    · subst hj
      rw [List.getElem?_set_self hi] at e2
      cases e2
      exact ⟨_, es, a, vs', rfl, nf, upd_same, hz, (rr.put h0 (.inl ina)).anti av⟩
    · rw [List.getElem?_set_ne (Ne.symm hj)] at e2
      obtain ⟨v, e3, q⟩ := r.env j s e2
      refine ⟨v, e3, (q.put h0 (.inl ina) fun us z1 z2 => ?_).anti av⟩
      subst z1
      rw [z2] at e3
      exact hj (r.dis j i us ws a e2 e e3 es)
  · have f : ∀ {j : Nat} {us : List W}, (st.env.set i (some (.own ws')))[j]? = some (some (Sl.own us)) → ∃ us0, st.env[j]? = some (some (Sl.own us0)) := fun {j us} q => by
      by_cases hj : j = i
      · subst hj; exact ⟨ws, e⟩
      · rw [List.getElem?_set_ne (Ne.symm hj)] at q; exact ⟨us, q⟩
    obtain ⟨u1, q1⟩ := f e2
    obtain ⟨u2, q2⟩ := f e3
    exact r.dis j k u1 u2 b q1 q2 e4 e5
  · obtain ⟨o, q⟩ := r.zd b z
    by_cases hb : b = a
    · exact ⟨_, by rw [hb]; exact upd_same⟩
    · exact ⟨o, by rw [upd_ne hb]; exact q⟩
  · by_cases hb : b = a
    · exact ⟨_, by rw [hb]; exact upd_same⟩
    · exact ⟨o, by rw [upd_ne hb]; exact q⟩
  · rw [upd_ne (ne_of q h0 (by intro z; cases z))]; exact q
  · have hb : b ≠ a := fun z => nb (by rw [z]; exact ⟨i, ws, e, es⟩)
    rw [upd_ne hb]; exact q
/-- an object of the store is written -/
theorem Rel.mutS {φ Z st} {σ : St} {H} {n : Nat} {so : SO} {a : Addr} {ws' : List W} {vs' : List V} (r : Rel K φ Z st σ H) (e : φ[n]? = some a) (es : st.sto[n]? = some so)
    (rr : Reps K φ (AV Z st.env σ) H ws' vs') (hz : vs'.length ≤ sizeLine) :
    Rel K φ Z { st with sto := st.sto.set n (.lst ws') } σ (L2.upd H a (.lst vs')) ∧ Step φ st σ H φ { st with sto := st.sto.set n (.lst ws') } (L2.upd H a (.lst vs')) := by
  obtain ⟨xs, h0⟩ : ∃ xs, H a = some (.lst xs) := by
    have q := r.sto.obj n a so e es
    cases so with
    | lst us =>
      obtain ⟨xs, q1, _⟩ := q
      exact ⟨xs, q1⟩
  have ina : a ∈ φ := List.mem_of_getElem? e
  refine ⟨⟨⟨by rw [List.length_set]; exact r.sto.len, r.sto.nd, r.sto.av, fun m b so' e1 e2 => ?_⟩, r.len, fun j s e2 => ?_, r.dis, r.hid, fun b z => ?_⟩,
    ⟨⟨⟨[], by simp⟩, fun _ m => .inl m, fun b o q => ?_, fun b xs q => ?_, fun b o q nb _ => ?_⟩, fun _ z => z⟩⟩
  · have hn : n < st.sto.length := (List.getElem?_eq_some_iff.mp es).1
    by_cases hm : m = n
    · subst hm
      rw [e] at e1; cases e1
      rw [List.getElem?_set_self hn] at e2
      cases e2
      exact ⟨vs', upd_same, hz, rr.put h0 (.inr ina)⟩
    · rw [List.getElem?_set_ne (Ne.symm hm)] at e2
      refine (r.sto.obj m b so' e1 e2).put h0 (.inr ina) fun z => hm ?_
      subst z
      obtain ⟨l1, g1⟩ := List.getElem?_eq_some_iff.mp e1
      obtain ⟨l2, g2⟩ := List.getElem?_eq_some_iff.mp e
      exact (List.getElem_inj r.sto.nd).mp (g1.trans g2.symm)
  · obtain ⟨v, e3, q⟩ := r.env j s e2
    refine ⟨v, e3, q.put h0 (.inr ina) fun us z1 z2 => ?_⟩
    subst z1
    obtain ⟨b, ys, e4, n4, _⟩ := q
    rw [z2] at e4; cases e4
    exact n4 ina
  · obtain ⟨o, q⟩ := r.zd b z
    by_cases hb : b = a
    · exact ⟨_, by rw [hb]; exact upd_same⟩
    · exact ⟨o, by rw [upd_ne hb]; exact q⟩
  · by_cases hb : b = a
    · exact ⟨_, by rw [hb]; exact upd_same⟩
    · exact ⟨o, by rw [upd_ne hb]; exact q⟩
  · rw [upd_ne (ne_of q h0 (by intro z; cases z))]; exact q
  · have hb : b ≠ a := fun z => nb (by rw [z]; exact ina)
    rw [upd_ne hb]; exact q
theorem slot_own {φ Z st} {σ : St} {H} {i : Nat} {ws : List W} (r : Rel K φ Z st σ H) (e : st.env[i]? = some (some (.own ws))) : ∃ a vs, σ[i]? = some (some (.ref a)) ∧ a ∉ φ ∧ H a = some (.lst vs) ∧ vs.length ≤ sizeLine ∧ Reps K φ (AV Z st.env σ) H ws vs := by
  obtain ⟨v, e1, a, vs, e2, n, h, z, rr⟩ := r.env i _ e
  subst e2
  exact ⟨a, vs, e1, n, h, z, rr⟩
theorem imp_pop {i : Nat} {e : IE} : ∀ σ H Q, tI K ce Wx (evB C (.pop i e)).v σ H Q → tBM K "list" rPopAt (tVar i) (tCons (tI K ce Wx (evB C e).v) tNil) σ H Q := by
  rintro σ H Q ⟨φ, Z, st, rel, o⟩
  simp only [evB, EB.of] at o
  split at o
  · rename_i ws0 e0
    obtain ⟨a, vs0, es, n0, h0, z0, r0⟩ := slot_own rel e0
    refine ⟨_, es, .inl ⟨rfl, _, .of h0⟩, φ, Z, st, rel, o.bind fun k st1 φ1 H1 e1 s1 o1 v1 rr => ?_⟩
    obtain ⟨rel1, rep1⟩ := rr.val
    split at o1
    · rename_i j ws ek ee
      rw [ek] at rep1
      obtain ⟨a', vs, es', n1, h1, z1, r1⟩ := slot_own rel1 ee
      rw [es] at es'; cases es'
      split at o1
      · rename_i n en
        split at o1
        · rename_i w ew
          obtain ⟨v, ev, rv⟩ := r1.get ew
          have en' : ixN vs.length j = some n := by rw [r1.length]; exact en
          obtain ⟨q1, q2, q3, q4⟩ := ixN_seq en'
          have hs : (vs.length : Int) < 2 ^ 63 := by
            have h : vs.length < 2 ^ 63 := Nat.lt_of_le_of_lt z1 line63
            omega
          refine ⟨a, vs, j, n, v, rfl, by rw [rep_int.mp rep1], h1, by omega, by omega, q1, ev, ?_⟩
          obtain ⟨rel2, s2⟩ := rel1.mut ee es h1 (r1.erase n) (Nat.le_trans (len_erase vs n) z1)
          exact o1 φ1 _ s2 v ⟨rel2, s2.rep rv⟩
        · exact o1.elim
      · exact o1.elim
    · exact o1.elim
  · exact o.elim
end
end LL

set_option Elab.async false
set_option linter.all false
set_option maxRecDepth 100000
set_option maxHeartbeats 2000000
/-! LLh: what loops walk, and comprehensions. -/
namespace LL
open PySem L2

/-- what comes at a turn: the item as it lay when the walk began, or a new tuple of such -/
def Yld (K : PySem.W.Frag) (φ : List Addr) (A : Addr → Prop) (H0 H' H'' : Hp) (w : W) (x : V) : Prop :=
  (H'' = H' ∧ Rep K φ A H0 w x) ∨ ∃ p ws us, w = .tup ws ∧ x = .ref p ∧ H' p = none ∧ H'' = upd H' p (.tup us) ∧ Reps K φ A H0 ws us ∧ us.length ≤ sizeLine
/-- a walk over plain items -/
def ItW (K : PySem.W.Frag) (φ : List Addr) (A : Addr → Prop) (H0 : Hp) (xs : List W) (J : It) : Prop :=
  ∃ G Y, Walk J xs.length G Y ∧ xs.length ≤ sizeLine ∧ (∀ φ' B H', Ext φ B H0 φ' H' → (∀ a, B a → A a) → G H') ∧
    ∀ i H' x H'', i < xs.length → G H' → Y i H' x H'' → ∃ w, xs[i]? = some w ∧ Yld K φ A H0 H' H'' w x
section
variable (K : PySem.W.Frag) (ce : Nat → Option Addr) (Wx : WX)
def tSI (m : ST → R (List W)) : TI := fun σ H R' => ∃ φ Z st, Rel K φ Z st σ H ∧ Out K ce Wx (fun φ' Z' st' H' xs => Rel K φ' Z' st' σ H' → ∀ J, ItW K φ' (AV Z' st'.env σ) H' xs J → R' J H') φ Z st σ H (m st)
end
theorem PI.imp {X : Cx} {tg e : Expr} {t t' : TI} (h : PI X tg e t) (i : ∀ σ H R, t' σ H R → t σ H R) : PI X tg e t' := ⟨fun pins s σ H R I q => h.run pins s σ H R I (i σ H R q)⟩
/-- a list or a tuple, whichever comes -/
def iSeq (K : PySem.W.Frag) (tl : TE) : TI := fun σ H R => tl σ H fun x H1 => ∃ a, x = .ref a ∧ (((∃ xs, SqL K H1 a xs) ∧ R (Itl K a) H1) ∨ ((∃ xs, SqT K H1 a xs) ∧ R (Itt K a) H1))
theorem pi_seq {X : Cx} {tg l : Expr} {tl : TE} (hl : PE X l tl) : PI X tg l (iSeq X.K tl) := by
  constructor
  intro pins s σ H R I h
  refine thn (hl.run pins s σ H _ I h) ?_
  rintro v s1 ⟨x, H1, I1, r1, a, rfl, q⟩
  cases r1
  have new : ∀ {o : Obj}, Inv X pins σ H1 { s1 with heap := s1.heap.push o } := fun {o} => I1.kept (t' := s1.toks) fun b u e => Heap.get?_push_of_some _ e
  have fp : ∀ b, b ∈ [s1.heap.objs.size] → FpOk X pins H1 b := fun b hb => by
    obtain rfl : b = s1.heap.objs.size := by simpa using hb
    exact I1.fpOk (Nat.le_refl _) (I1.hok.fresh (Nat.le_refl _))
  rcases q with ⟨⟨xs, hq⟩, q⟩ | ⟨⟨xs, hq⟩, q⟩
  · obtain ⟨its, _, pl, _⟩ := I1.list hq
    exact wpAny_pyIter_list pl.isList ⟨_, [s1.heap.objs.size], _, _, H1, rfl, new, turn_list a _, ⟨_, Heap.get?_push_size _ rfl, rfl, rfl⟩, fp, q⟩
  · obtain ⟨its, _, pt, _⟩ := I1.tuple hq
    exact PySem.wpAny_pyIter_tuple (show s1.heap.IsTuple a its.toArray from pt) ⟨_, [s1.heap.objs.size], _, _, H1, rfl, new, turn_tuple a _, ⟨_, Heap.get?_push_size _ rfl, rfl, rfl⟩, fp, q⟩

section
variable {K : PySem.W.Frag} {ce : Nat → Option Addr} {Wx : WX} {C : CT}
theorem itw_list {φ A H} {a : Addr} {ws : List W} {vs : List V} (t : LAt φ A H a vs) (r : Reps K φ A H ws vs) : ItW K φ A H ws (Itl K a) := by
  refine ⟨_, _, by rw [← r.length]; exact walk_list (K := K) (a := a) (xs := vs), by rw [← r.length]; exact t.sz, fun φ' B H' e hb => SqL.of (e.lat hb t).at_, ?_⟩
  rintro i H' x H'' hi _ ⟨rfl, hx⟩
  obtain ⟨w, h1, h2⟩ := r.get' hx
  exact ⟨w, h1, .inl ⟨rfl, h2⟩⟩
theorem itw_tup {φ A H} {a : Addr} {ws : List W} {vs : List V} (t : TAt K H a vs) (r : Reps K φ A H ws vs) : ItW K φ A H ws (Itt K a) := by
  refine ⟨_, _, by rw [← r.length]; exact walk_tup (K := K) (a := a) (xs := vs), by rw [← r.length]; exact t.2, fun φ' B H' e hb => (e.tat t).sq, ?_⟩
  rintro i H' x H'' hi _ ⟨rfl, hx⟩
  obtain ⟨w, h1, h2⟩ := r.get' hx
  exact ⟨w, h1, .inl ⟨rfl, h2⟩⟩
theorem itw_rng {φ A H} {j : Int} (hz : j.toNat ≤ sizeLine) : ItW K φ A H (rngW j) (Itr 0 j.toNat) := by
  have hl : (rngW j).length = j.toNat := by unfold rngW; simp
  refine ⟨_, _, by rw [hl]; exact walk_range (lo := 0) (n := j.toNat), by rw [hl]; exact hz, fun _ _ _ _ _ => trivial, ?_⟩
  rintro i H' x H'' hi _ ⟨rfl, hx⟩
  rw [hl] at hi
  refine ⟨.int (i : Nat), ?_, .inl ⟨rfl, ?_⟩⟩
  · unfold rngW
    rw [List.getElem?_map, List.getElem?_range hi]; rfl
  · rw [hx]
    refine rep_int.mpr ?_
    simp
theorem enumW_get : ∀ (ws : List W) (n i : Nat), (enumW n ws)[i]? = (ws[i]?).map fun x => .tup [.int ((n + i : Nat) : Int), x]
  | [], n, i => by simp [enumW]
  | x :: ws, n, 0 => by simp [enumW]
  | x :: ws, n, i + 1 => by
    have ih := enumW_get ws (n + 1) i
    rw [enumW, List.getElem?_cons_succ, List.getElem?_cons_succ, ih]
    congr 1
    funext y
    rw [show n + 1 + i = n + (i + 1) by omega]
theorem enumW_len : ∀ (ws : List W) (n : Nat), (enumW n ws).length = ws.length
  | [], _ => rfl
  | _ :: ws, n => by rw [enumW, List.length_cons, List.length_cons, enumW_len ws]
/-- a walk that pairs each item with its number -/
theorem itw_en {φ A H} {J : It} {ws : List W} {vs : List V} {G : Hp → Prop} (hz : vs.length ≤ sizeLine) (hG : ∀ φ' B H', Ext φ B H φ' H' → (∀ a, B a → A a) → G H') (r : Reps K φ A H ws vs)
    (wk : Walk J vs.length G fun i H v H' => ∃ T x, v = .ref T ∧ H T = none ∧ H' = upd H T (.tup [.int (i : Nat), x]) ∧ vs[i]? = some x) : ItW K φ A H (enumW 0 ws) J := by
  have hl : (enumW 0 ws).length = vs.length := by rw [enumW_len, r.length]
  refine ⟨_, _, by rw [hl]; exact wk, by rw [hl]; exact hz, hG, ?_⟩
  rintro i H' x H'' hi _ ⟨T, y, rfl, h0, rfl, hy⟩
  obtain ⟨w, h1, h2⟩ := r.get' hy
  refine ⟨.tup [.int (i : Nat), w], by rw [enumW_get, h1, Nat.zero_add]; rfl, .inr ⟨T, _, _, rfl, rfl, h0, rfl, .cons (rep_int.mpr rfl) (.cons h2 .nil), by show 2 ≤ sizeLine; decide⟩⟩
theorem imp_enm {e : IE} : ∀ σ H R, tSI K ce Wx (evI C (.enm e)) σ H R → iEn K (tCons (tI K ce Wx (evB C e).v) tNil) σ H R := by
  rintro σ H R ⟨φ, Z, st, rel, o⟩
  simp only [evI] at o
  refine ⟨φ, Z, st, rel, o.bind fun r st1 φ1 H1 e1 s1 o1 v1 rr => ?_⟩
  obtain ⟨rel1, rep1⟩ := rr.val
  cases ei : items r.w with
  | none => simp only [ei] at o1; exact o1.elim
  | some xs =>
    simp only [ei] at o1
    generalize r.w = w at ei rep1
    cases w with
    | tup ws =>
      cases ei
      obtain ⟨a, vs, rfl, t, r1⟩ := rep_tup.mp rep1
      refine ⟨a, rfl, .inr ⟨⟨vs, t.sq⟩, o1.ok rel1 _ (itw_en (G := fun H => SqT K H a vs) t.2 (fun φ' B H' e hb => (e.tat t).sq) r1 ⟨fun i H2 hi q => ⟨vs, vs[i], q, by simp [hi]⟩, fun H2 q => ⟨vs, q, rfl⟩, fun i H2 x H3 hi q y => ?_⟩)⟩⟩
      obtain ⟨T, z, h1, h2, h3, h4⟩ := y
      exact ⟨T, z, h1, h2, h3, h4 vs q⟩
    | lst ws =>
      cases ei
      obtain ⟨a, vs, rfl, t, r1⟩ := rep_lst.mp rep1
      refine ⟨a, rfl, .inl ⟨⟨vs, .of t.at_⟩, o1.ok rel1 _ (itw_en (G := fun H => SqL K H a vs) t.sz (fun φ' B H' e hb => SqL.of (e.lat hb t).at_) r1 ⟨fun i H2 hi q => ⟨vs, vs[i], q, by simp [hi]⟩, fun H2 q => ⟨vs, q, Nat.le_refl _⟩, fun i H2 x H3 hi q y => ?_⟩)⟩⟩
      obtain ⟨T, z, h1, h2, h3, h4⟩ := y
      exact ⟨T, z, h1, h2, h3, h4 vs q⟩
    | _ => cases ei
theorem imp_seq {e : IE} : ∀ σ H R, tSI K ce Wx (evI C (.seq e)) σ H R → iSeq K (tI K ce Wx (evB C e).v) σ H R := by
  rintro σ H R ⟨φ, Z, st, rel, o⟩
  simp only [evI] at o
  refine ⟨φ, Z, st, rel, o.bind fun r st1 φ1 H1 e1 s1 o1 v1 rr => ?_⟩
  obtain ⟨rel1, rep1⟩ := rr.val
  cases ei : items r.w with
  | none => simp only [ei] at o1; exact o1.elim
  | some xs =>
    simp only [ei] at o1
    generalize r.w = w at ei rep1
    cases w with
    | tup ws =>
      cases ei
      obtain ⟨a, vs, rfl, t, r1⟩ := rep_tup.mp rep1
      exact ⟨a, rfl, .inr ⟨⟨vs, t.sq⟩, o1.ok rel1 _ (itw_tup t r1)⟩⟩
    | lst ws =>
      cases ei
      obtain ⟨a, vs, rfl, t, r1⟩ := rep_lst.mp rep1
      exact ⟨a, rfl, .inl ⟨⟨vs, .of t.at_⟩, o1.ok rel1 _ (itw_list t r1)⟩⟩
    | _ => cases ei
theorem imp_rng {e : IE} : ∀ σ H R, tSI K ce Wx (evI C (.rng e)) σ H R → iRng1 (tCons (tI K ce Wx (evB C e).v) tNil) σ H R := by
  rintro σ H R ⟨φ, Z, st, rel, o⟩
  simp only [evI] at o
  refine ⟨φ, Z, st, rel, o.bind fun r st1 φ1 H1 e1 s1 o1 v1 rr => ?_⟩
  obtain ⟨rel1, rep1⟩ := rr.val
  split at o1
  · rename_i j ej
    rw [ej] at rep1
    split at o1
    · rename_i hj
      simp only [rngOk, Bool.and_eq_true, decide_eq_true_eq] at hj
      exact ⟨j, by rw [rep_int.mp rep1], hj.1.1, hj.1.2, o1.ok rel1 _ (itw_rng (of_decide_eq_true hj.2))⟩
    · exact o1.elim
  · exact o1.elim
end

/-! ### frames changed by parts -/
section
variable {K : PySem.W.Frag} {ce : Nat → Option Addr} {Wx : WX} {C : CT}
theorem Rel.patch {φ Z} {e1 e2 : Env'} {sto : List SO} {σ1 σ2 : St} {H} (r : Rel K φ Z ⟨e1, sto⟩ σ1 H) (hl : e2.length = σ2.length)
    (h : ∀ (i : Nat) s, e2[i]? = some (some s) → (e1[i]? = some (some s) ∧ σ2[i]? = σ1[i]?) ∨ ∃ w v, s = .val w ∧ σ2[i]? = some (some v) ∧ Rep K φ (AV Z e1 σ1) H w v) : Rel K φ Z ⟨e2, sto⟩ σ2 H := by
  have oe : ∀ a, OE e2 σ2 a → OE e1 σ1 a := fun a ⟨i, ws, q1, q2⟩ => by
    rcases h i _ q1 with ⟨h1, h2⟩ | ⟨w, v, h1, _⟩
    · exact ⟨i, ws, h1, by rw [← h2]; exact q2⟩
    · cases h1
  have av : ∀ a, AV Z e2 σ2 a → AV Z e1 σ1 a := fun a z => z.elim .inl fun q => .inr (oe a q)
  refine ⟨r.sto.anti av, hl, fun i s q => ?_, fun i j ws ws' a q1 q2 q3 q4 => ?_, fun a z => r.hid a (oe a z), r.zd⟩
  · rcases h i s q with ⟨h1, h2⟩ | ⟨w, v, rfl, h2, h3⟩
    · obtain ⟨v, h3, h4⟩ := r.env i s h1
      exact ⟨v, by rw [h2]; exact h3, h4.anti av⟩
    · exact ⟨_, h2, v, rfl, h3.anti av⟩
  · rcases h i _ q1 with ⟨h1, h2⟩ | ⟨w, v, h1, _⟩
    · rcases h j _ q2 with ⟨h3, h4⟩ | ⟨w, v, h3, _⟩
      · exact r.dis i j ws ws' a h1 h3 (by rw [← h2]; exact q3) (by rw [← h4]; exact q4)
      · cases h3
    · cases h1
theorem OE.patch {K : PySem.W.Frag} {φ Z} {e1 e2 : Env'} {σ1 σ2 : St} {H}
    (h : ∀ (i : Nat) s, e2[i]? = some (some s) → (e1[i]? = some (some s) ∧ σ2[i]? = σ1[i]?) ∨ ∃ w v, s = .val w ∧ σ2[i]? = some (some v) ∧ Rep K φ (AV Z e1 σ1) H w v) : ∀ a, OE e2 σ2 a → OE e1 σ1 a := fun a ⟨i, ws, q1, q2⟩ => by
  rcases h i _ q1 with ⟨h1, h2⟩ | ⟨w, v, h1, _⟩
  · exact ⟨i, ws, h1, by rw [← h2]; exact q2⟩
  · cases h1
theorem wipeE_len : ∀ (vs : List Nat) (env : Env'), (wipeE vs env).length = env.length
  | [], _ => rfl
  | v :: vs, env => by unfold wipeE; rw [List.length_set, wipeE_len vs env]
theorem wipeE_get {env : Env'} {i : Nat} {s : Sl} : ∀ {vs : List Nat}, (wipeE vs env)[i]? = some (some s) → env[i]? = some (some s) ∧ i ∉ vs
  | [], h => ⟨h, by simp⟩
  | v :: vs, h => by
    unfold wipeE at h
    by_cases hi : v = i
    · subst hi
      by_cases hv : v < (wipeE vs env).length
      · rw [List.getElem?_set_self hv] at h; cases h
      · rw [List.getElem?_eq_none (by simpa using hv)] at h; cases h
    · rw [List.getElem?_set_ne hi] at h
      obtain ⟨h1, h2⟩ := wipeE_get h
      exact ⟨h1, by simp only [List.mem_cons, not_or]; exact ⟨fun e => hi e.symm, h2⟩⟩
theorem wipe_patch {K : PySem.W.Frag} {φ Z} {env : Env'} {σ : St} {H} {vs : List Nat} : ∀ (i : Nat) s, (wipeE vs env)[i]? = some (some s) → (env[i]? = some (some s) ∧ (wipe σ vs)[i]? = σ[i]?) ∨ ∃ w v, s = .val w ∧ (wipe σ vs)[i]? = some (some v) ∧ Rep K φ (AV Z env σ) H w v :=
  fun i s h => .inl ⟨(wipeE_get h).1, wipe_out (wipeE_get h).2⟩
theorem Rel.wipe {φ Z} {env : Env'} {sto} {σ : St} {H} (r : Rel K φ Z ⟨env, sto⟩ σ H) (vs : List Nat) : Rel K φ Z ⟨wipeE vs env, sto⟩ (L2.wipe σ vs) H :=
  r.patch (by rw [wipeE_len, wipe_length]; exact r.len) wipe_patch
theorem restE_len : ∀ (vs : List Nat) (e0 e1 : Env'), (restE vs e0 e1).length = e1.length
  | [], _, _ => rfl
  | v :: vs, e0, e1 => by unfold restE; rw [List.length_set, restE_len vs e0 e1]
theorem keepV_some {o : Option (Option Sl)} {s : Sl} (h : keepV o = some s) : ∃ w, s = .val w ∧ o = some (some (.val w)) := by
  unfold keepV at h
  split at h
  · cases h; exact ⟨_, rfl, rfl⟩
  · cases h
theorem restE_get {e0 e1 : Env'} {i : Nat} {s : Sl} : ∀ {vs : List Nat}, (restE vs e0 e1)[i]? = some (some s) → (i ∉ vs ∧ e1[i]? = some (some s)) ∨ (i ∈ vs ∧ ∃ w, s = .val w ∧ e0[i]? = some (some (.val w)))
  | [], h => .inl ⟨by simp, h⟩
  | v :: vs, h => by
    unfold restE at h
    by_cases hi : v = i
    · subst hi
      by_cases hv : v < (restE vs e0 e1).length
      · rw [List.getElem?_set_self hv] at h
        obtain ⟨w, h1, h2⟩ := keepV_some (Option.some.inj h)
        exact .inr ⟨by simp, w, h1, h2⟩
      · rw [List.getElem?_eq_none (by simpa using hv)] at h; cases h
    · rw [List.getElem?_set_ne hi] at h
      rcases restE_get h with ⟨h1, h2⟩ | ⟨h1, h2⟩
      · exact .inl ⟨by simp only [List.mem_cons, not_or]; exact ⟨fun e => hi e.symm, h1⟩, h2⟩
      · exact .inr ⟨List.mem_cons_of_mem _ h1, h2⟩
/-- a target's reading -/
def gOf (K : PySem.W.Frag) : TgI → TG
  | .nm i => gName i
  | .tp [i, j] => gTup K 2 (gCons (gName i) (gCons (gName j) gNil))
  | _ => fun _ _ _ _ => False
theorem set_patch {K : PySem.W.Frag} {φ Z} {env : Env'} {σ : St} {H} {i : Nat} {w : W} {v : V} (hl : env.length = σ.length) (h : Rep K φ (AV Z env σ) H w v) :
    ∀ (j : Nat) s, (env.set i (some (.val w)))[j]? = some (some s) → (env[j]? = some (some s) ∧ (σ.set i (some v))[j]? = σ[j]?) ∨ ∃ w v', s = .val w ∧ (σ.set i (some v))[j]? = some (some v') ∧ Rep K φ (AV Z env σ) H w v' := fun j s q => by
  by_cases hj : i = j
  · subst hj
    by_cases hi : i < env.length
    · rw [List.getElem?_set_self hi] at q
      cases q
      exact .inr ⟨w, v, rfl, List.getElem?_set_self (by rw [← hl]; exact hi), h⟩
    · rw [List.getElem?_eq_none (by simpa using hi)] at q; cases q
  · rw [List.getElem?_set_ne hj] at q
    exact .inl ⟨q, List.getElem?_set_ne hj⟩
theorem Rel.setv {φ Z} {env : Env'} {sto} {σ : St} {H} {i : Nat} {w : W} {v : V} (r : Rel K φ Z ⟨env, sto⟩ σ H) (h : Rep K φ (AV Z env σ) H w v) :
    Rel K φ Z ⟨env.set i (some (.val w)), sto⟩ (σ.set i (some v)) H := r.patch (by rw [List.length_set, List.length_set]; exact r.len) (set_patch r.len h)
theorem wipe_set {σ : St} {i : Nat} {o : Option V} {vs : List Nat} (h : i ∈ vs) : wipe (σ.set i o) vs = wipe σ vs := by
  induction vs with
  | nil => cases h
  | cons v vs ih =>
    unfold wipe
    by_cases hv : i ∈ vs
    · rw [ih hv]
    · have e : i = v := by simpa [hv] using h
      subst e
      have gen : ∀ us : List Nat, i ∉ us → wipe (σ.set i o) us = (wipe σ us).set i o := by
        intro us
        induction us with
        | nil => intro _; rfl
        | cons u us ih2 =>
          intro hu
          simp only [List.mem_cons, not_or] at hu
          unfold wipe
          rw [ih2 hu.2, List.set_comm _ _ hu.1]
      rw [gen vs hv, List.set_set]
theorem tg_ok {φ Z} {env env' : Env'} {sto} {σ : St} {H} {g : TgI} {w : W} {x : V} {Q : St → Hp → Prop} (r : Rel K φ Z ⟨env, sto⟩ σ H) (h : Rep K φ (AV Z env σ) H w x) (e : setT g w env = some env')
    (q : ∀ σ2, Rel K φ Z ⟨env', sto⟩ σ2 H → (∀ a, OE env' σ2 a → OE env σ a) → wipe σ2 g.vars = wipe σ g.vars → (∀ j, j ∉ g.vars → σ2[j]? = σ[j]?) → Q σ2 H) : gOf K g x σ H Q := by
  cases g with
  | nm i =>
    cases e
    refine q _ (r.setv h) (OE.patch (set_patch r.len h)) (wipe_set (by simp [TgI.vars])) fun j hj => ?_
    exact List.getElem?_set_ne (fun z => hj (by rw [← z]; simp [TgI.vars]))
  | tp l =>
    match l, e with
    | [i, j], e =>
      cases w with
      | tup ws =>
        match ws, e, h with
        | [a, b], e, h =>
          cases e
          obtain ⟨p, vs, rfl, t, rr⟩ := rep_tup.mp h
          unfold Reps at rr
          obtain ⟨u, r1, rfl, ra, rr⟩ := rr
          unfold Reps at rr
          obtain ⟨v, r2, rfl, rb, rr⟩ := rr
          unfold Reps at rr
          subst rr
          have r1 := r.setv (i := i) ra
          have hb1 : Rep K φ (AV Z (env.set i (some (.val a))) (σ.set i (some u))) H b v := rb.anti fun y z => z.elim .inl fun o => .inr (OE.patch (set_patch r.len ra) y o)
          have r2 := r1.setv (i := j) hb1
          refine ⟨p, [u, v], rfl, t.sq, rfl, u, [v], rfl, v, [], rfl, rfl, q _ r2 (fun y o => OE.patch (set_patch r.len ra) y (OE.patch (set_patch r1.len hb1) y o)) ?_ fun k hk => ?_⟩
          · rw [wipe_set (by simp [TgI.vars]), wipe_set (by simp [TgI.vars])]
          · have : k ≠ i ∧ k ≠ j := by simpa [TgI.vars] using hk
            rw [List.getElem?_set_ne this.2.symm, List.getElem?_set_ne this.1.symm]
      | _ => cases e
theorem yld_rep {φ1 A1 B H1 φ' A' H' H''} {w : W} {x : V} (y : Yld K φ1 A1 H1 H' H'' w x) (e : Ext φ1 B H1 φ' H') (hb : ∀ a, B a → A1 a) (ha : ∀ a, A' a → A1 a ∨ H1 a = none) :
    Rep K φ' A' H'' w x ∧ (H'' = H' ∨ ∃ p o, H' p = none ∧ H'' = upd H' p o) := by
  rcases y with ⟨rfl, r⟩ | ⟨p, ws, us, rfl, rfl, h0, rfl, r, z⟩
  · exact ⟨r.later e hb ha, .inl rfl⟩
  · refine ⟨rep_tup.mpr ⟨p, us, rfl, ⟨.inl upd_same, z⟩, ?_⟩, .inr ⟨p, _, h0, rfl⟩⟩
    exact (r.later e hb ha).ext (B := A') (Ext.upd h0) fun _ z => z
/-- a hidden list is written -/
theorem Rel.putZ {φ Z st} {σ : St} {H} {p : Addr} {xs ys : List V} (r : Rel K φ Z st σ H) (hz : Z p) (h0 : H p = some (.lst xs)) : Rel K φ Z st σ (L2.upd H p (.lst ys)) := by
  have ina : AV Z st.env σ p := .inl hz
  refine ⟨⟨r.sto.len, r.sto.nd, r.sto.av, fun n b so e1 e2 => (r.sto.obj n b so e1 e2).put h0 (.inl ina) fun z => r.sto.av b (List.mem_of_getElem? e1) (by rw [z]; exact ina)⟩, r.len, fun i s e => ?_, r.dis, r.hid, fun b z => ?_⟩
  · obtain ⟨v, e1, q⟩ := r.env i s e
    refine ⟨v, e1, q.put h0 (.inl ina) fun ws z1 z2 => ?_⟩
    subst z1
    exact r.hid p ⟨i, ws, e, by rw [e1, z2]⟩ hz
  · obtain ⟨o, q⟩ := r.zd b z
    by_cases hb : b = p
    · exact ⟨_, by rw [hb]; exact upd_same⟩
    · exact ⟨o, by rw [upd_ne hb]; exact q⟩
end

/-! ### comprehensions -/
section
variable {K : PySem.W.Frag} {ce : Nat → Option Addr} {Wx : WX} {C : CT}
theorem bind_ok {α β : Type} {r : R α} {f : α → ST → R β} {b : β} {st : ST} (h : r.bind f = .ok b st) : ∃ a st1, r = .ok a st1 ∧ f a st1 = .ok b st := by
  cases r with
  | ok a st1 => exact ⟨a, st1, rfl, h⟩
  | exn => cases h
  | bad => cases h
/-- the test's reading: none, or one -/
def tCond (K : PySem.W.Frag) (ce : Nat → Option Addr) (C : CT) (cond : IE) (has : Bool) : TT := match has with
  | true => tTst K ce (fun _ _ _ _ => False) (evB C cond).t
  | false => tYes
theorem imp_comp {elt : IE} {g : TgI} {src : SI} {cond : IE} {has : Bool} : ∀ σ H Q, tI K ce Wx (evB C (.comp elt g src cond has)).v σ H Q →
    tLc (tSI K ce Wx (evI C src)) (gOf K g) (tCond K ce C cond has) (tI K ce (fun _ _ _ _ => False) (evB C elt).v) g.vars σ H Q := by
  rintro σ H Q ⟨φ, Z, st, rel, o⟩
  simp only [evB, EB.of] at o
  refine ⟨φ, Z, st, rel, o.bind fun xs st1 φ1 H1 e1 s1 o1 rel1 J itw D hD => ?_⟩
  cases hc : compL (cStep (evB C cond).t (evB C elt).v g has) xs st1 with
  | bad => rw [hc] at o1; exact o1.elim
  | exn => rw [hc] at o1; exact o1.elim
  | ok wsf stf =>
    rw [hc] at o1
    obtain ⟨G, Y, wk, hzl, hG, hY⟩ := itw
    let ZD : Addr → Prop := fun a => Z a ∨ a = D
    obtain ⟨nD1, nD2⟩ := rel1.notAV hD
    -- the invariant
    refine lc_it wk (fun i H' => ∃ φ' ste acc ws rest, Rel K φ' ZD ⟨wipeE g.vars ste.env, ste.sto⟩ (wipe σ g.vars) H' ∧ Ext φ1 (OE st1.env σ) H1 φ' H' ∧ (∀ a, OE (wipeE g.vars ste.env) (wipe σ g.vars) a → OE st1.env σ a) ∧
        ste.env.length = st1.env.length ∧ H' D = some (.lst acc) ∧ Reps K φ' (AV ZD (wipeE g.vars ste.env) (wipe σ g.vars)) H' ws acc ∧ acc.length ≤ i ∧
        compL (cStep (evB C cond).t (evB C elt).v g has) (xs.drop i) ste = .ok rest stf ∧ ws ++ rest = wsf) ?_ ?_ ?_ ?_
    · refine ⟨φ1, st1, [], [], wsf, (rel1.fresh hD).wipe g.vars, Ext.upd hD, fun a z => ?_, rfl, upd_same, .nil, Nat.zero_le _, hc, rfl⟩
      obtain ⟨i, ws, q1, q2⟩ := z
      obtain ⟨q3, q4⟩ := wipeE_get q1
      exact ⟨i, ws, q3, by rw [← wipe_out q4]; exact q2⟩
    · rintro i H' _ ⟨φ', ste, acc, ws, rest, _, ext, _⟩
      exact hG φ' _ H' ext fun _ z => .inr z
    · rintro i x H' H'' hi ⟨φ', ste, acc, ws, rest, relI, ext, oeI, lenI, hDI, repI, lenA, compI, appI⟩ hy
      obtain ⟨w, hw, yl⟩ := hY i H' x H'' hi (hG φ' _ H' ext fun _ z => .inr z) hy
      have hdrop : xs.drop i = w :: xs.drop (i + 1) := by
        obtain ⟨h1, h2⟩ := List.getElem?_eq_some_iff.mp hw
        rw [List.drop_eq_getElem_cons h1, h2]
      rw [hdrop] at compI
      unfold compL at compI
      obtain ⟨oo, st2, hst, compI⟩ := bind_ok compI
      obtain ⟨rest', st3, hco, compI⟩ := bind_ok compI
      cases compI
      unfold cStep at hst
      cases hset : setT g w (wipeE g.vars ste.env) with
      | none => rw [hset] at hst; cases hst
      | some env' =>
        rw [hset] at hst
        dsimp only at hst
        -- the item
        have avs : ∀ a, AV ZD (wipeE g.vars ste.env) (wipe σ g.vars) a → AV Z st1.env σ a ∨ H1 a = none := fun a z => by
          rcases z with (z | z) | z
          · exact .inl (.inl z)
          · exact .inr (by rw [z]; exact hD)
          · exact .inl (.inr (oeI a z))
        obtain ⟨repx, hpp⟩ := yld_rep yl ext (fun _ z => .inr z) avs
        have hH'' : Rel K φ' ZD ⟨wipeE g.vars ste.env, ste.sto⟩ (wipe σ g.vars) H'' ∧ Ext φ1 (OE st1.env σ) H1 φ' H'' ∧ H'' D = some (.lst acc) ∧ Reps K φ' (AV ZD (wipeE g.vars ste.env) (wipe σ g.vars)) H'' ws acc := by
          rcases hpp with rfl | ⟨p, ob, h0, rfl⟩
          · exact ⟨relI, ext, hDI, repI⟩
          · exact ⟨relI.upd h0, ext.trans (Ext.upd (B := OE st1.env σ) h0) fun _ z => z, by rw [upd_ne (ne_of_none hDI h0)]; exact hDI, repI.ext (B := AV ZD (wipeE g.vars ste.env) (wipe σ g.vars)) (Ext.upd h0) fun _ z => z⟩
        obtain ⟨relJ, extJ, hDJ, repJ⟩ := hH''
        refine tg_ok relJ repx hset fun σ2 rel2 oe2 wi2 out2 => ⟨?_, ?_⟩
        · rw [wi2]
          -- wiped twice
          have idem : ∀ us : List Nat, (∀ u ∈ us, u ∈ g.vars) → wipe (wipe σ us) g.vars = wipe σ g.vars := by
            intro us
            induction us with
            | nil => intro _; rfl
            | cons u us ih =>
              intro hu
              show wipe ((wipe σ us).set u none) g.vars = _
              rw [wipe_set (hu u List.mem_cons_self), ih fun v hv => hu v (List.mem_cons_of_mem _ hv)]
          exact idem g.vars fun _ h => h
        · -- from the element on
          have wi3 : wipe σ2 g.vars = wipe σ g.vars := by
            rw [wi2]
            have idem : ∀ us : List Nat, (∀ u ∈ us, u ∈ g.vars) → wipe (wipe σ us) g.vars = wipe σ g.vars := by
              intro us
              induction us with
              | nil => intro _; rfl
              | cons u us ih =>
                intro hu
                show wipe ((wipe σ us).set u none) g.vars = _
                rw [wipe_set (hu u List.mem_cons_self), ih fun v hv => hu v (List.mem_cons_of_mem _ hv)]
            exact idem g.vars fun _ h => h
          -- a state further on in the turn
          have fin : ∀ {φ3 H3 st4} (s : Step φ' ⟨env', ste.sto⟩ σ2 H'' φ3 st4 H3) (r3 : Rel K φ3 ZD st4 σ2 H3), st4.env.length = env'.length →
              Rel K φ3 ZD ⟨wipeE g.vars st4.env, st4.sto⟩ (wipe σ g.vars) H3 ∧ Ext φ1 (OE st1.env σ) H1 φ3 H3 ∧ (∀ a, OE (wipeE g.vars st4.env) (wipe σ g.vars) a → OE st1.env σ a) ∧ st4.env.length = st1.env.length ∧ H3 D = some (.lst acc) ∧
                Reps K φ3 (AV ZD st4.env σ2) H3 ws acc ∧ ∀ a, AV ZD (wipeE g.vars st4.env) (wipe σ g.vars) a → AV ZD st4.env σ2 a := fun {φ3 H3 st4} s r3 hl => by
            have oeA : ∀ a, OE st4.env σ2 a → OE st1.env σ a := fun a z => oeI a (oe2 a (s.own a z))
            have oeW : ∀ a, OE (wipeE g.vars st4.env) (wipe σ g.vars) a → OE st4.env σ2 a := fun a ⟨i, us, q1, q2⟩ => by
              obtain ⟨q3, q4⟩ := wipeE_get q1
              refine ⟨i, us, q3, ?_⟩
              rw [← wi3, wipe_out q4] at q2
              exact q2
            have r4 : Rel K φ3 ZD ⟨wipeE g.vars st4.env, st4.sto⟩ (wipe σ2 g.vars) H3 := Rel.wipe (env := st4.env) (sto := st4.sto) r3 g.vars
            rw [wi3] at r4
            have nb : ∀ a, OE env' σ2 a → OE st1.env σ a := fun a z => oeI a (oe2 a z)
            refine ⟨r4, extJ.trans s.ext nb, fun a z => oeA a (oeW a z), ?_, ?_, ?_, fun a z => z.elim .inl fun q => .inr (oeW a q)⟩
            · have h1 := rel2.len
              have h2 := r3.len
              have h3 := relJ.len
              simp only at h1 h2 h3
              rw [h2, ← r3.len, hl, h1]
              have h4 : σ2.length = (wipe σ g.vars).length := by
                have := congrArg List.length wi2
                rw [wipe_length, wipe_length] at this
                exact this
              rw [h4, wipe_length]
              exact rel1.len.symm
            · have hDn : ¬ OE env' σ2 D := fun z => nD1 (.inr (nb D z))
              have hDf : D ∉ φ' := fun z => relJ.sto.av D z (.inl (.inr rfl))
              exact s.ext.frm D _ hDJ hDf hDn
            · have q : Reps K φ' (AV ZD env' σ2) H'' ws acc := repJ.anti fun a z => z.elim .inl fun q => .inr (oe2 a q)
              exact s.reps q
          have evlen : ∀ {φ3 H3 st4}, Rel K φ3 ZD st4 σ2 H3 → st4.env.length = env'.length := fun {φ3 H3 st4} r => by
            rw [r.len]; exact rel2.len.symm
          have last : ∀ {φ3 H3 st4} {r : RV} {y : V} {H9 : Hp} (s : Step φ' ⟨env', ste.sto⟩ σ2 H'' φ3 st4 H3), RRep K H9 φ3 ZD st4 σ2 H3 r y → oo = some r.w → st2 = st4 →
              ∃ acc, H3 D = some (.lst acc) ∧ acc.length < sizeLine ∧ (fun H' => ∃ φ' ste acc ws rest, Rel K φ' ZD ⟨wipeE g.vars ste.env, ste.sto⟩ (wipe σ g.vars) H' ∧ Ext φ1 (OE st1.env σ) H1 φ' H' ∧ (∀ a, OE (wipeE g.vars ste.env) (wipe σ g.vars) a → OE st1.env σ a) ∧
                ste.env.length = st1.env.length ∧ H' D = some (.lst acc) ∧ Reps K φ' (AV ZD (wipeE g.vars ste.env) (wipe σ g.vars)) H' ws acc ∧ acc.length ≤ i + 1 ∧
                compL (cStep (evB C cond).t (evB C elt).v g has) (xs.drop (i + 1)) ste = .ok rest stf ∧ ws ++ rest = wsf) (upd H3 D (.lst (acc ++ [y]))) := fun {φ3 H3 st4 r y H9} s rr eo es => by
            subst es
            obtain ⟨r3, rep3⟩ := rr.val
            obtain ⟨f1, f2, f3, f4, f5, f6, f7⟩ := fin s r3 (evlen r3)
            have zD : ZD D := .inr rfl
            refine ⟨acc, f5, by have := hzl; omega, φ3, st2, acc ++ [y], ws ++ [r.w], rest', f1.putZ zD f5, ?_, f3, f4, upd_same, ?_, ?_, hco, ?_⟩
            · -- the heap of the walk's beginning did not know the new list
              have e := f2
              refine ⟨e.pre, e.new, fun a o q => ?_, fun a us q => ?_, fun a o q n b => ?_⟩
              · have ne : a ≠ D := ne_of_none q hD
                rw [upd_ne ne]; exact e.dom a o q
              · have ne : a ≠ D := ne_of_none q hD
                rw [upd_ne ne]; exact e.tup a us q
              · have ne : a ≠ D := ne_of_none q hD
                rw [upd_ne ne]; exact e.frm a o q n b
            · exact (((f6.append (.cons rep3 .nil)).anti f7).put f5 (.inl (.inl (.inr rfl))))
            · rw [List.length_append, List.length_singleton]; omega
            · rw [List.append_assoc]
              rw [eo] at appI
              exact appI
          cases has with
          | false =>
            rw [if_neg Bool.false_ne_true] at hst
            obtain ⟨r, st4, h1, h2⟩ := bind_ok hst
            cases h2
            have key : ∀ Q' : Bool → Hp → Prop, Q' true H'' → tCond K ce C cond false σ2 H'' Q' := fun _ h => h
            refine key _ ?_
            rw [if_pos rfl]
            refine ⟨φ', ZD, ⟨env', ste.sto⟩, rel2, ?_⟩
            rw [h1]
            exact fun φ3 H3 s y rr => last s rr rfl rfl
          | true =>
            rw [if_pos rfl] at hst
            obtain ⟨b, st4, h1, h2⟩ := bind_ok hst
            refine ⟨φ', ZD, ⟨env', ste.sto⟩, rel2, ?_⟩
            rw [h1]
            intro φ3 H3 s3 r3
            cases b with
            | true =>
              rw [if_pos rfl] at h2 ⊢
              obtain ⟨r, st5, h3, h4⟩ := bind_ok h2
              cases h4
              refine ⟨φ3, ZD, st4, r3, ?_⟩
              rw [h3]
              exact fun φ4 H4 s4 y rr => last (s3.trans s4) rr rfl rfl
            | false =>
              rw [if_neg Bool.false_ne_true] at h2 ⊢
              cases h2
              obtain ⟨f1, f2, f3, f4, f5, f6, f7⟩ := fin s3 r3 (evlen r3)
              exact ⟨φ3, st2, acc, ws, rest', f1, f2, f3, f4, f5, f6.anti f7, by omega, hco, appI⟩
    · rintro H' ⟨φ', ste0, acc, ws, rest, relI, ext, oeI, lenI, hDI, repI, lenA, compI, appI⟩
      rw [List.drop_length] at compI
      unfold compL at compI
      cases compI
      rw [List.append_nil] at appI
      subst appI
      have o1 : ∀ φ' H', Step φ1 st1 σ H1 φ' ⟨restE g.vars st1.env stf.env, stf.sto⟩ H' → ∀ v, RRep K H φ' Z ⟨restE g.vars st1.env stf.env, stf.sto⟩ σ H' (.f ws) v → Q v H' := o1
      have avs : ∀ a, AV ZD (wipeE g.vars stf.env) (wipe σ g.vars) a → AV Z st1.env σ a ∨ H1 a = none := fun a z => by
        rcases z with (z | z) | z
        · exact .inl (.inl z)
        · exact .inr (by rw [z]; exact hD)
        · exact .inl (.inr (oeI a z))
      have pat : ∀ (i : Nat) s, (restE g.vars st1.env stf.env)[i]? = some (some s) → ((wipeE g.vars stf.env)[i]? = some (some s) ∧ σ[i]? = (wipe σ g.vars)[i]?) ∨ ∃ w v, s = .val w ∧ σ[i]? = some (some v) ∧ Rep K φ' (AV ZD (wipeE g.vars stf.env) (wipe σ g.vars)) H' w v := fun i s h => by
        rcases restE_get h with ⟨h1, h2⟩ | ⟨h1, w, rfl, h2⟩
        · refine .inl ⟨?_, (wipe_out h1).symm⟩
          have gen : ∀ us : List Nat, i ∉ us → (wipeE us stf.env)[i]? = stf.env[i]? := by
            intro us
            induction us with
            | nil => intro _; rfl
            | cons u us ih =>
              intro hu
              simp only [List.mem_cons, not_or] at hu
              unfold wipeE
              rw [List.getElem?_set_ne (fun z => hu.1 z.symm), ih hu.2]
          rw [gen _ h1]; exact h2
        · obtain ⟨u, e3, v, e4, rr⟩ := rel1.env i _ h2
          subst e4
          exact .inr ⟨w, v, rfl, e3, rr.later ext (fun _ z => .inr z) avs⟩
      have relF : Rel K φ' ZD ⟨restE g.vars st1.env stf.env, stf.sto⟩ σ H' := relI.patch (by rw [restE_len, lenI]; exact rel1.len) pat
      have oeF : ∀ a, OE (restE g.vars st1.env stf.env) σ a → OE (wipeE g.vars stf.env) (wipe σ g.vars) a := OE.patch pat
      refine o1 φ' H' ⟨ext, fun a z => oeI a (oeF a z)⟩ (.ref D) ⟨D, acc, rfl, Dm.none s1.ext.dom hD, fun z => relI.sto.av D z (.inl (.inr rfl)), fun z => ?_, hDI, by omega, relF, repI.anti fun a z => z.elim .inl fun q => .inr (oeF a q)⟩
      rcases z with z | z
      · obtain ⟨ob, q⟩ := rel1.zd D z
        rw [hD] at q; cases q
      · exact nD1 (.inr (oeI D (oeF D z)))
end
end LL

set_option Elab.async false
set_option linter.all false
set_option maxRecDepth 100000
set_option maxHeartbeats 4000000
/-! LLi: the text and the small language: a check, and the soundness of expressions. -/
namespace LL
open PySem L2

def vis (sc : Scope) (x : Str) : Bool := match sc.names.lookup x with
  | some .local => true
  | some .cell => true
  | some .free => true
  | _ => false
def locl (sc : Scope) (x : Str) : Bool := match sc.names.lookup x with
  | some .local => true
  | some .cell => true
  | _ => false
def glb (sc : Scope) (x : Str) : Bool := match sc.names.lookup x with
  | some .globalImplicit => true
  | _ => false
def notStar : Expr → Bool
  | .Starred _ _ => false
  | _ => true
def notSlice : Expr → Bool
  | .Slice _ _ _ _ => false
  | _ => true
def notSet : Expr → Bool
  | .Set _ _ _ => false
  | _ => true
def notComp : Expr → Bool
  | .ListComp _ _ _ _ => false
  | .SetComp _ _ _ _ => false
  | .DictComp _ _ _ _ _ => false
  | _ => true
/-- a test by its value's truth -/
def plainT : Expr → Bool
  | .UnaryOp .Not _ _ => false
  | .BoolOp _ _ _ => false
  | .IfExp _ _ _ _ => false
  | .Compare _ _ _ _ => false
  | _ => true
def opM : Op2 → Operator → Bool
  | .add, .Add => true
  | .sub, .Sub => true
  | .mul, .Mult => true
  | .fdiv, .FloorDiv => true
  | .mod, .Mod => true
  | .pow, .Pow => true
  | _, _ => false
def cpM : Cp → CmpOp → Bool
  | .eq, .Eq => true
  | .ne, .NotEq => true
  | .lt, .Lt => true
  | .le, .LtE => true
  | .gt, .Gt => true
  | .ge, .GtE => true
  | .isN, .Is => true
  | .notN, .IsNot => true
  | .inn, .In => true
  | .nin, .NotIn => true
  | _, _ => false
def bfName : Bf → Str
  | .len => "len"
  | .int => "int"
  | .tuple => "tuple"
  | .list => "list"
  | .sorted => "sorted"
def tnName : Tn → Str
  | .tuple => "tuple"
  | .list => "list"
  | .str => "str"
  | .int => "int"
  | .bool => "bool"
def isTup : Expr → Bool
  | .Tuple _ _ _ => true
  | _ => false
def okName (x : Str) : Bool := !(x == ("__debug__" : Str)) && !(x == ("__classdict__" : Str)) && decide (x ≠ "__name__")
def chG (sc : Scope) (N : List Str) : TgI → Expr → Bool
  | .nm i, .Name x _ => decide (N[i]? = some x) && locl sc x
  | .tp [i, j], .Tuple [.Name x _, .Name y _] _ _ => decide (N[i]? = some x) && locl sc x && decide (N[j]? = some y) && locl sc y
  | _, _ => false
abbrev Ck := Scope → Expr → Bool
/-- of an expression; as a test -/
structure CB where
  e : Ck
  t : Ck
def CB.of (e : Ck) : CB := ⟨e, fun sc x => e sc x && plainT x⟩
def ckOwn (N : List Str) (g : TgI) : List (Str × Nat) := g.vars.filterMap fun i => (N[i]?).map fun x => (x, i)
section
variable (fn : List (Str × Nat)) (N : List Str)
mutual
def chB : IE → CB
  | .var i => .of fun sc x => match x with
    | .Name x _ => decide (N[i]? = some x) && vis sc x && okName x
    | _ => false
  | .non => .of fun sc x => match x with
    | .Constant .none _ _ => true
    | _ => false
  | .bl b => .of fun sc x => match x with
    | .Constant (.bool c) _ _ => decide (b = c)
    | _ => false
  | .int i => .of fun sc x => match x with
    | .Constant (.int j) _ _ => decide (i = j)
    | .UnaryOp .USub (.Constant (.int j) _ _) _ => decide (i = -j)
    | _ => false
  | .str s => .of fun sc x => match x with
    | .Constant (.str t) _ _ => decide (s = t) && PyData.strOk s
    | _ => false
  | .tup a => .of fun sc x => match x with
    | .Tuple es _ _ => chA a sc es
    | _ => false
  | .lst a => .of fun sc x => match x with
    | .List es _ => chA a sc es
    | _ => false
  | .bin o a b => .of fun sc x => match x with
    | .BinOp x p y _ => opM o p && (chB a).e sc x && (chB b).e sc y
    | _ => false
  | .cmp o a b => ⟨fun sc x => match x with
    | .Compare x [p] [y] _ => cpM o p && (chB a).e sc x && (chB b).e sc y && notSet y
    | _ => false, fun sc x => match x with
    | .Compare x [p] [y] _ => cpM o p && (chB a).e sc x && (chB b).e sc y && notSet y
    | _ => false⟩
  | .andE a b => ⟨fun sc x => match x with
    | .BoolOp .And [x, y] _ => (chB a).e sc x && (chB b).e sc y
    | _ => false, fun sc x => match x with
    | .BoolOp .And [x, y] _ => (chB a).t sc x && (chB b).t sc y
    | _ => false⟩
  | .orE a b => ⟨fun sc x => match x with
    | .BoolOp .Or [x, y] _ => (chB a).e sc x && (chB b).e sc y
    | _ => false, fun sc x => match x with
    | .BoolOp .Or [x, y] _ => (chB a).t sc x && (chB b).t sc y
    | _ => false⟩
  | .notE a => ⟨fun sc x => match x with
    | .UnaryOp .Not x _ => (chB a).e sc x
    | _ => false, fun sc x => match x with
    | .UnaryOp .Not x _ => (chB a).t sc x
    | _ => false⟩
  | .ifE c a b => .of fun sc x => match x with
    | .IfExp x y z _ => (chB c).t sc x && (chB a).e sc y && (chB b).e sc z
    | _ => false
  | .idx a b => .of fun sc x => match x with
    | .Subscript x y _ => (chB a).e sc x && (chB b).e sc y && notSlice y
    | _ => false
  | .sfrom a lo => .of fun sc x => match x with
    | .Subscript x (.Slice (some l) none none _) _ => (chB a).e sc x && (chB lo).e sc l
    | _ => false
  | .upto a hi => .of fun sc x => match x with
    | .Subscript x (.Slice none (some h) none _) _ => (chB a).e sc x && (chB hi).e sc h
    | _ => false
  | .cut a lo hi => .of fun sc x => match x with
    | .Subscript x (.Slice (some l) (some h) none _) _ => (chB a).e sc x && (chB lo).e sc l && (chB hi).e sc h
    | _ => false
  | .rev a => .of fun sc x => match x with
    | .Subscript x (.Slice none none (some (.UnaryOp .USub (.Constant (.int j) _ _) _)) _) _ => (chB a).e sc x && decide (j = 1)
    | _ => false
  | .call f a => .of fun sc x => match x with
    | .Call (.Name x _) (e :: es) [] _ => decide (fn[f]? = some (x, a.len)) && glb sc x && okName x && chA a sc (e :: es)
    | _ => false
  | .blt f a => .of fun sc x => match x with
    | .Call (.Name x _) (e :: es) [] _ => decide (x = bfName f) && glb sc x && chA a sc (e :: es)
    | _ => false
  | .pop i e => .of fun sc x => match x with
    | .Call (.Attribute (.Name x _) m ap) [y] [] cp => decide (N[i]? = some x) && vis sc x && okName x && decide (m = "pop") && (chB e).e sc y && notStar y && (ap.endLine == cp.line)
    | _ => false
  | .setLen e => .of fun sc x => match x with
    | .Call (.Name x _) [.Call (.Name y _) [z] [] _] [] _ => decide (x = "len") && glb sc x && decide (y = "set") && glb sc y && (chB e).e sc z && notStar z
    | _ => false
  | .isT e t => .of fun sc x => match x with
    | .Call (.Name x _) [y, .Name z _] [] _ => decide (x = "isinstance") && glb sc x && (chB e).e sc y && notStar y && decide (z = tnName t) && glb sc z
    | _ => false
  | .comp elt g src cond has => .of fun sc x => match x with
    | .ListComp e [⟨tg, it, ifs, k⟩] scope _ => decide (k = 0) && chI src sc tg it && notSet it && chG scope N g tg && blkC N sc scope (ckOwn N g) && decide ((ckOwn N g).map (·.2) = g.vars) &&
        (match has, ifs with
          | true, [c] => (chB cond).t scope c
          | false, [] => true
          | _, _ => false) && (chB elt).e scope e
    | _ => false
def chA : IA → Scope → List Expr → Bool
  | .nil, _, [] => true
  | .cons e r, sc, x :: xs => (chB e).e sc x && notStar x && chA r sc xs
  | _, _, _ => false
def chI : SI → Scope → Expr → Expr → Bool
  | .seq e, sc, _, x => (chB e).e sc x
  | .rng e, sc, _, x => match x with
    | .Call (.Name x _) [y] [] _ => decide (x = "range") && glb sc x && (chB e).e sc y && notStar y
    | _ => false
  | .enm e, sc, tg, x => match x with
    | .Call (.Name x _) [y] [] _ => decide (x = "enumerate") && glb sc x && (chB e).e sc y && notStar y && isTup tg
    | _ => false
end
end

/-! ### the side conditions of the rules -/
theorem star_of {e : Expr} {es : List Expr} {env : Env} (h : notStar e = true) : starEach (e :: es) env = (false, eval e env) :: starEach es env := by
  cases e <;> first | rfl | cases h
theorem set_of {e : Expr} {op : CmpOp} (h : notSet e = true) : behindInMarks op e = false := by
  cases e <;> first | rfl | cases h
theorem ix_of {e : Expr} (h : notSlice e = true) : PlainIx e := by
  intro o i
  cases e <;> first | rfl | cases h
theorem fold_of {e : Expr} {env : Env} (h : notSet e = true) : ∀ x, foldedSetIterable e env x = pure x := by
  intro x
  cases e <;> first | rfl | cases h
theorem swap_of {e : Expr} {t : Option Expr} {l : Nat} {env : Env} (h : notComp e = true) : swapsWith e t l env = pure false := by
  cases e <;> first | rfl | cases h
theorem true_of {e : Expr} {env : Env} (h : plainT e = true) : ∀ whole, isTrue e env whole = (do let v ← whole; standAt e.pos; holding [v] (truthy v)) := by
  intro w
  cases e <;> first | rfl | cases h | (rename_i op _ _; cases op <;> first | rfl | cases h)
theorem names_of {x : Str} (h : okName x = true) : (x == ("__debug__" : Str)) = false ∧ (x == ("__classdict__" : Str)) = false ∧ x ≠ "__name__" := by
  simp only [okName, Bool.and_eq_true, Bool.not_eq_true', decide_eq_true_eq] at h
  exact ⟨h.1.1, h.1.2, h.2⟩
theorem any_star {pos : Pos} {env : Env} : ∀ {es : List Expr}, es.all notStar = true → (backTo pos (starEach es env)).any (·.1) = false
  | [], _ => rfl
  | e :: es, h => by
    rw [List.all_cons, Bool.and_eq_true] at h
    rw [star_of h.1]
    show (false || (backTo pos (starEach es env)).any (·.1)) = false
    rw [any_star h.2]; rfl
theorem chA_star {fn : List (Str × Nat)} {N : List Str} {sc : Scope} : ∀ {r : IA} {es : List Expr}, chA fn N r sc es = true → es.all notStar = true
  | .nil, [], _ => rfl
  | .nil, _ :: _, h => by simp [chA] at h
  | .cons _ _, [], h => by simp [chA] at h
  | .cons e r, x :: xs, h => by
    simp only [chA, Bool.and_eq_true] at h
    rw [List.all_cons, Bool.and_eq_true]
    exact ⟨h.1.2, chA_star h.2⟩

/-- built-in names that the texts use -/
def bNames : List Str := ["len", "int", "tuple", "list", "range", "enumerate", "sorted", "isinstance", "set", "str", "all", "any", "abs", "min", "max", "divmod", "ValueError", "bool"]
/-- where an expression stands -/
structure Kx (ce : Nat → Option Addr) (C : CT) (fn : List (Str × Nat)) (N : List Str) (X : Cx) (sc : Scope) : Prop where
  hN : X.N = N
  nd : N.Nodup
  calm : X.calm = true
  hu : X.A.units + 64 < cLine
  sv : ∀ x, vis sc x = true → Vis X.env.scope x
  sl : ∀ x, locl sc x = true → Loc X.env.scope x
  sg : ∀ x, glb sc x = true → Gl X x
  sf : ∀ x, sc.names.lookup x = some .cell ∨ sc.names.lookup x = some .free → X.env.scope.names.lookup x = some .cell ∨ X.env.scope.names.lookup x = some .free
  fnl : ∀ x, locl sc x = true → X.fn x = true ∨ X.env.scope.names.lookup x = some .local
  bn : ∀ b ∈ bNames, X.mg b = none
  fns : ∀ f x n, fn[f]? = some (x, n) → ∃ a fd ps L, Room L X.A ∧ X.mg x = some (.ref a) ∧ PySem.W.keepIn X.K (.ref a) = true ∧ Binds X.K fd ps [] ∧ ps.length = n ∧ FnOk X.prog X.w X.K X.mg X.base (L2.CX X.prog X.w) L a fd ps (spC X.K ce C f n)

theorem lookup_rel {env : Env} : ∀ {l : List (Str × NameKind)} {x : Str} {k : NameKind}, l.lookup x = some k →
    (l.map fun (n, k) => if (k == NameKind.free && env.scope.kind == .function && env.kindOf n == some .cell) then (n, NameKind.cell) else (n, k)).lookup x = some k ∨
      (k = .free ∧ (l.map fun (n, k) => if (k == NameKind.free && env.scope.kind == .function && env.kindOf n == some .cell) then (n, NameKind.cell) else (n, k)).lookup x = some .cell)
  | [], _, _, h => by simp at h
  | (n, j) :: l, x, k, h => by
    rw [List.lookup_cons] at h
    rw [List.map_cons]
    cases e : x == n with
    | true =>
      rw [e] at h
      simp only [Option.some.injEq] at h
      subst h
      dsimp only
      split
      · rename_i c
        simp only [Bool.and_eq_true] at c
        refine .inr ⟨by simpa using c.1.1, ?_⟩
        rw [List.lookup_cons, e]
      · exact .inl (by rw [List.lookup_cons, e])
    | false =>
      rw [e] at h
      have h' : l.lookup x = some k := h
      dsimp only
      split
      · rw [List.lookup_cons, e]; exact lookup_rel h'
      · rw [List.lookup_cons, e]; exact lookup_rel h'
theorem rel_scope {scope : Scope} {env : Env} {x : Str} {k : NameKind} (h : scope.names.lookup x = some k) : (relabel scope env).names.lookup x = some k ∨ (k = .free ∧ (relabel scope env).names.lookup x = some .cell) := lookup_rel h
theorem vis_of {sc : Scope} {x : Str} (h : vis sc x = true) : Vis sc x := by
  unfold vis at h
  split at h <;> first | exact .inl (by assumption) | exact .inr (.inl (by assumption)) | exact .inr (.inr (by assumption)) | cases h
theorem locl_of {sc : Scope} {x : Str} (h : locl sc x = true) : Loc sc x := by
  unfold locl at h
  split at h <;> first | exact .inl (by assumption) | exact .inr (by assumption) | cases h
theorem glb_of {sc : Scope} {x : Str} (h : glb sc x = true) : sc.names.lookup x = some .globalImplicit := by
  unfold glb at h
  split at h <;> first | assumption | cases h
end LL

set_option Elab.async false
set_option linter.all false
set_option maxRecDepth 100000
set_option maxHeartbeats 4000000
/-! LLj: the soundness of expressions. -/
namespace LL
open PySem L2

section
variable {ce : Nat → Option Addr} {C : CT} {fn : List (Str × Nat)} {N : List Str}
/-- a comprehension's block -/
theorem Kx.blk {X : Cx} {sc : Scope} (k : Kx ce C fn N X sc) {s : Shared} {H : Hp} {scope : Scope} {cl : List (Str × Addr)} {c : Addr} {fp : List Addr} : Kx ce C fn N (X.blk s H scope (compEnvC scope cl c X.env) fp) scope where
  hN := k.hN
  nd := k.nd
  calm := k.calm
  hu := k.hu
  sv := fun x h => by
    rcases vis_of h with h | h | h
    · exact (rel_scope (env := X.env) h).elim .inl fun z => nomatch z.1
    · exact (rel_scope (env := X.env) h).elim (fun z => .inr (.inl z)) fun z => nomatch z.1
    · exact (rel_scope (env := X.env) h).elim (fun z => .inr (.inr z)) fun z => .inr (.inl z.2)
  sl := fun x h => by
    rcases locl_of h with h | h
    · exact (rel_scope (env := X.env) h).elim .inl fun z => nomatch z.1
    · exact (rel_scope (env := X.env) h).elim .inr fun z => nomatch z.1
  sg := fun x h => (rel_scope (env := X.env) (glb_of h)).elim (fun z => z) fun z => nomatch z.1
  sf := fun x h => by
    rcases h with h | h
    · exact (rel_scope (env := X.env) h).elim .inl fun z => nomatch z.1
    · exact (rel_scope (env := X.env) h).elim .inr fun z => .inl z.2
  fnl := fun x h => by
    rcases locl_of h with h | h
    · exact (rel_scope (env := X.env) h).elim .inr fun z => nomatch z.1
    · refine .inl ?_
      show (scope.names.lookup x == some .cell) = true
      rw [h]; rfl
  bn := k.bn
  fns := k.fns
theorem opd_eq {e : IE} {m : ST → R RV} (h : ∀ i, e ≠ .var i) : opd e m = fun st => (m st).bind fun v st => .ok (.v v.w) st := by
  funext st
  cases e <;> first | rfl | exact (h _ rfl).elim
theorem soO {X : Cx} {sc : Scope} {Wx : WX} {e : IE} {a : Expr} (k : Kx ce C fn N X sc) (h : (chB fn N e).e sc a = true) (hE : PE X a (tI X.K ce Wx (evB C e).v)) : PE X a (tO X.K ce Wx (opd e (evB C e).v)) := by
  cases e with
  | var i =>
    simp only [chB, CB.of] at h
    split at h
    · simp only [Bool.and_eq_true, decide_eq_true_eq] at h
      obtain ⟨⟨h1, h2⟩, h3⟩ := h
      obtain ⟨n1, n2, _⟩ := names_of h3
      exact PE.imp (pe_var (by rw [k.hN]; exact h1) (k.sv _ h2) n1 n2) imp_varO
    · cases h
  | _ => exact PE.imp hE (by rw [opd_eq (by intro i z; cases z)]; exact imp_opd)
theorem tg_chk {X : Cx} {sc : Scope} {g : TgI} {a : Expr} (k : Kx ce C fn N X sc) (h : chG sc N g a = true) : PG X a (gOf X.K g) := by
  have one : ∀ {i : Nat} {x : Str} {p : Pos}, N[i]? = some x → locl sc x = true → PG X (.Name x p) (gName i) := fun {i x p} h1 h2 =>
    pg_name (by rw [k.hN]; exact k.nd) (by rw [k.hN]; exact h1) (k.sl _ h2) (k.fnl _ h2)
  unfold chG at h
  split at h
  · simp only [Bool.and_eq_true, decide_eq_true_eq] at h
    exact one h.1 h.2
  · simp only [Bool.and_eq_true, decide_eq_true_eq] at h
    exact pg_tup k.calm (pgs_cons (one h.1.1.1 h.1.1.2) (pgs_cons (one h.1.2 h.2) pgs_nil))
  · cases h
/-- by a built-in function's name -/
theorem bu_any {X : Cx} {sc : Scope} (k : Kx ce C fn N X sc) {f : Bf} {x : Str} {e : Expr} {es : List Expr} {p pos : Pos} {t : TA} (hx : x = bfName f) (hg : glb sc x = true) (ha : PA X (e :: es) t) (hs : (e :: es).all notStar = true) :
    PE X (.Call (.Name x p) (e :: es) [] pos) (tCB (rUc X.K f) t) := by
  rw [List.all_cons, Bool.and_eq_true] at hs
  have h1 := star_of (es := es) (env := X.env) hs.1
  have h2 := any_star (pos := pos) (env := X.env) hs.2
  have hg' := k.sg _ hg
  subst hx
  cases f with
  | len => exact pe_callB bu_len hg' (k.bn _ (by decide +kernel)) PySem.boot_len ha (by decide +kernel) (by decide +kernel) h1 h2
  | int => exact pe_callTy bu_int hg' (k.bn _ (by decide +kernel)) (by decide +kernel) ha (by decide +kernel) (by decide +kernel) h1 h2
  | tuple => exact pe_callTy bu_tuple hg' (k.bn _ (by decide +kernel)) (by decide +kernel) ha (by decide +kernel) (by decide +kernel) h1 h2
  | list => exact pe_callTy bu_list hg' (k.bn _ (by decide +kernel)) (by decide +kernel) ha (by decide +kernel) (by decide +kernel) h1 h2
  | sorted => exact pe_callB bu_sorted hg' (k.bn _ (by decide +kernel)) (by decide +kernel) ha (by decide +kernel) (by decide +kernel) h1 h2
/-- what is shown of an expression -/
def SoE (ce : Nat → Option Addr) (C : CT) (fn : List (Str × Nat)) (N : List Str) (e : IE) : Prop :=
  ∀ (X : Cx) (sc : Scope) (Wx : WX) (a : Expr), Kx ce C fn N X sc → Takes X Wx → ((chB fn N e).e sc a = true → PE X a (tI X.K ce Wx (evB C e).v)) ∧ ((chB fn N e).t sc a = true → PT X a (tTst X.K ce Wx (evB C e).t))
/-- a form whose test is its value's truth -/
theorem so_of {e : IE} (hb : (chB fn N e).t = (fun sc x => (chB fn N e).e sc x && plainT x)) (ht : (evB C e).t = fun st => tst (opd e (evB C e).v st))
    (h : ∀ (X : Cx) (sc : Scope) (Wx : WX) (a : Expr), Kx ce C fn N X sc → Takes X Wx → (chB fn N e).e sc a = true → PE X a (tI X.K ce Wx (evB C e).v)) : SoE ce C fn N e := fun X sc Wx a k tk => by
  refine ⟨h X sc Wx a k tk, fun hc => ?_⟩
  rw [hb] at hc
  simp only [Bool.and_eq_true] at hc
  rw [ht]
  exact PT.imp (pt_truth (soO k hc.1 (h X sc Wx a k tk hc.1)) (true_of hc.2)) imp_tst
theorem op_of {X : Cx} : ∀ {o : Op2} {p : Operator}, opM o p = true → OpR X (binaryOp p) (rU X.K (op2 o))
  | .add, p, h => by cases p <;> first | exact (Bool.false_ne_true h).elim | exact ou_add
  | .sub, p, h => by cases p <;> first | exact (Bool.false_ne_true h).elim | exact ou_sub
  | .mul, p, h => by cases p <;> first | exact (Bool.false_ne_true h).elim | exact ou_mul
  | .fdiv, p, h => by cases p <;> first | exact (Bool.false_ne_true h).elim | exact ou_fdiv
  | .mod, p, h => by cases p <;> first | exact (Bool.false_ne_true h).elim | exact ou_mod
  | .pow, p, h => by cases p <;> first | exact (Bool.false_ne_true h).elim | exact ou_pow
theorem cp_of {X : Cx} (hu : X.A.units + 64 < cLine) : ∀ {o : Cp} {p : CmpOp}, cpM o p = true → OpR X (compareOp p) (rU X.K fun v w => vB (cmp2 o v w))
  | .eq, p, h => by cases p <;> first | exact (Bool.false_ne_true h).elim | exact oc_eq hu
  | .ne, p, h => by cases p <;> first | exact (Bool.false_ne_true h).elim | exact oc_ne hu
  | .lt, p, h => by cases p <;> first | exact (Bool.false_ne_true h).elim | exact oc_lt
  | .le, p, h => by cases p <;> first | exact (Bool.false_ne_true h).elim | exact oc_le
  | .gt, p, h => by cases p <;> first | exact (Bool.false_ne_true h).elim | exact oc_gt
  | .ge, p, h => by cases p <;> first | exact (Bool.false_ne_true h).elim | exact oc_ge
  | .isN, p, h => by cases p <;> first | exact (Bool.false_ne_true h).elim | exact oc_isN
  | .notN, p, h => by cases p <;> first | exact (Bool.false_ne_true h).elim | exact oc_notN
  | .inn, p, h => by cases p <;> first | exact (Bool.false_ne_true h).elim | exact oc_in
  | .nin, p, h => by cases p <;> first | exact (Bool.false_ne_true h).elim | exact oc_nin
def SoA (ce : Nat → Option Addr) (C : CT) (fn : List (Str × Nat)) (N : List Str) (r : IA) : Prop :=
  ∀ (X : Cx) (sc : Scope) (Wx : WX) (es : List Expr), Kx ce C fn N X sc → Takes X Wx → chA fn N r sc es = true → PA X es (tAr X.K ce Wx (evA C r))
def SoO (ce : Nat → Option Addr) (C : CT) (fn : List (Str × Nat)) (N : List Str) (r : IA) : Prop :=
  ∀ (X : Cx) (sc : Scope) (Wx : WX) (es : List Expr), Kx ce C fn N X sc → Takes X Wx → chA fn N r sc es = true → PA X es (tOs X.K ce Wx (evO C r))
def SoI (ce : Nat → Option Addr) (C : CT) (fn : List (Str × Nat)) (N : List Str) (r : SI) : Prop :=
  ∀ (X : Cx) (sc : Scope) (Wx : WX) (tg a : Expr), Kx ce C fn N X sc → Takes X Wx → chI fn N r sc tg a = true → PI X tg a (tSI X.K ce Wx (evI C r))
theorem so_var {i : Nat}  : SoE ce C fn N (.var i) := so_of rfl rfl fun X sc Wx a k tk h => by
    simp only [chB, CB.of] at h
    split at h
    · simp only [Bool.and_eq_true, decide_eq_true_eq] at h
      obtain ⟨⟨h1, h2⟩, h3⟩ := h
      obtain ⟨n1, n2, _⟩ := names_of h3
      exact PE.imp (pe_var (by rw [k.hN]; exact h1) (k.sv _ h2) n1 n2) imp_var
    · cases h
theorem so_non   : SoE ce C fn N (.non) := so_of rfl rfl fun X sc Wx a k tk h => by
    simp only [chB, CB.of] at h
    split at h
    · exact PE.imp pe_non (imp_c fun _ _ _ _ _ _ => rep_non.mpr rfl)
    · cases h
theorem so_bl {b : Bool}  : SoE ce C fn N (.bl b) := so_of rfl rfl fun X sc Wx a k tk h => by
    simp only [chB, CB.of] at h
    split at h
    · obtain rfl := of_decide_eq_true h
      exact PE.imp pe_bl (imp_c fun _ _ _ _ _ _ => rep_bl.mpr rfl)
    · cases h
theorem so_int {i : Int}  : SoE ce C fn N (.int i) := so_of rfl rfl fun X sc Wx a k tk h => by
    simp only [chB, CB.of] at h
    split at h
    · obtain rfl := of_decide_eq_true h
      exact PE.imp pe_int (imp_c fun _ _ _ _ _ _ => rep_int.mpr rfl)
    · obtain rfl := of_decide_eq_true h
      refine PE.imp (pe_un un_neg pe_int) fun σ H Q q => ?_
      exact ⟨_, rfl, imp_c (v := .int _) (fun _ _ _ _ _ _ => rep_int.mpr rfl) σ H Q q⟩
    · cases h
theorem so_str {s : Str}  : SoE ce C fn N (.str s) := so_of rfl rfl fun X sc Wx a k tk h => by
    simp only [chB, CB.of] at h
    split at h
    · simp only [Bool.and_eq_true, decide_eq_true_eq] at h
      obtain ⟨rfl, h2⟩ := h
      exact PE.imp pe_str (imp_c fun _ _ _ _ _ _ => rep_str.mpr ⟨rfl, h2⟩)
    · cases h
theorem so_tup {r : IA} (hA_r : SoA ce C fn N r) : SoE ce C fn N (.tup r) := so_of rfl rfl fun X sc Wx a k tk h => by
    simp only [chB, CB.of] at h
    split at h
    · exact PE.imp (pe_tup (hA_r X sc Wx _ k tk h)) imp_tup
    · cases h
theorem so_lst {r : IA} (hA_r : SoA ce C fn N r) : SoE ce C fn N (.lst r) := so_of rfl rfl fun X sc Wx a k tk h => by
    simp only [chB, CB.of] at h
    split at h
    · exact PE.imp (pe_lst (hA_r X sc Wx _ k tk h)) imp_lst
    · cases h
theorem so_bin {o : Op2} {x : IE} {y : IE} (h_x : SoE ce C fn N x) (h_y : SoE ce C fn N y) : SoE ce C fn N (.bin o x y) := so_of rfl rfl fun X sc Wx a k tk h => by
    simp only [chB, CB.of] at h
    split at h
    · simp only [Bool.and_eq_true] at h
      exact PE.imp (pe_op (op_of h.1.1) (soO k h.1.2 ((h_x X sc Wx _ k tk).1 h.1.2)) (soO k h.2 ((h_y X sc Wx _ k tk).1 h.2))) imp_bin
    · cases h
theorem so_cmp {o : Cp} {x : IE} {y : IE} (h_x : SoE ce C fn N x) (h_y : SoE ce C fn N y) : SoE ce C fn N (.cmp o x y) := fun X sc Wx a k tk => by
    refine ⟨fun h => ?_, fun h => ?_⟩
    · simp only [chB] at h
      split at h
      · simp only [Bool.and_eq_true] at h
        exact PE.imp (pe_cmpR (cp_of k.hu h.1.1.1) (soO k h.1.1.2 ((h_x X sc Wx _ k tk).1 h.1.1.2)) (soO k h.1.2 ((h_y X sc Wx _ k tk).1 h.1.2)) (set_of h.2)) imp_bin
      · cases h
    · simp only [chB] at h
      split at h
      · simp only [Bool.and_eq_true] at h
        exact PT.imp (pt_cmpR (cp_of k.hu h.1.1.1) (soO k h.1.1.2 ((h_x X sc Wx _ k tk).1 h.1.1.2)) (soO k h.1.2 ((h_y X sc Wx _ k tk).1 h.1.2)) (set_of h.2)) (imp_cmpT fun i z => nomatch z)
      · cases h
theorem so_andE {x : IE} {y : IE} (h_x : SoE ce C fn N x) (h_y : SoE ce C fn N y) : SoE ce C fn N (.andE x y) := fun X sc Wx a k tk => by
    refine ⟨fun h => ?_, fun h => ?_⟩
    · simp only [chB] at h
      split at h
      · simp only [Bool.and_eq_true] at h
        exact PE.imp (pe_and ((h_x X sc Wx _ k tk).1 h.1) (pe_one ((h_y X sc Wx _ k tk).1 h.2))) imp_andV
      · cases h
    · simp only [chB] at h
      split at h
      · simp only [Bool.and_eq_true] at h
        exact PT.imp (PW.pt (pw_and ((h_x X sc Wx _ k tk).2 h.1) (pw_and1 ((h_y X sc Wx _ k tk).2 h.2)))) imp_andT
      · cases h
theorem so_orE {x : IE} {y : IE} (h_x : SoE ce C fn N x) (h_y : SoE ce C fn N y) : SoE ce C fn N (.orE x y) := fun X sc Wx a k tk => by
    refine ⟨fun h => ?_, fun h => ?_⟩
    · simp only [chB] at h
      split at h
      · simp only [Bool.and_eq_true] at h
        exact PE.imp (pe_or ((h_x X sc Wx _ k tk).1 h.1) (pe_one ((h_y X sc Wx _ k tk).1 h.2))) imp_orV
      · cases h
    · simp only [chB] at h
      split at h
      · simp only [Bool.and_eq_true] at h
        exact PT.imp (PW.pt (pw_or ((h_x X sc Wx _ k tk).2 h.1) (pw_or1 ((h_y X sc Wx _ k tk).2 h.2)))) imp_orT
      · cases h
theorem so_notE {x : IE} (h_x : SoE ce C fn N x) : SoE ce C fn N (.notE x) := fun X sc Wx a k tk => by
    refine ⟨fun h => ?_, fun h => ?_⟩
    · simp only [chB] at h
      split at h
      · exact PE.imp (pe_not ((h_x X sc Wx _ k tk).1 h)) imp_notV
      · cases h
    · simp only [chB] at h
      split at h
      · exact PT.imp (pt_not ((h_x X sc Wx _ k tk).2 h)) imp_notT
      · cases h
theorem so_ifE {c : IE} {x : IE} {y : IE} (h_c : SoE ce C fn N c) (h_x : SoE ce C fn N x) (h_y : SoE ce C fn N y) : SoE ce C fn N (.ifE c x y) := so_of rfl rfl fun X sc Wx a k tk h => by
    simp only [chB, CB.of] at h
    split at h
    · simp only [Bool.and_eq_true] at h
      exact PE.imp (pe_ifExp ((h_c X sc Wx _ k tk).2 h.1.1) ((h_x X sc Wx _ k tk).1 h.1.2) ((h_y X sc Wx _ k tk).1 h.2)) imp_ifV
    · cases h
theorem so_idx {x : IE} {y : IE} (h_x : SoE ce C fn N x) (h_y : SoE ce C fn N y) : SoE ce C fn N (.idx x y) := so_of rfl rfl fun X sc Wx a k tk h => by
    simp only [chB, CB.of] at h
    split at h
    · simp only [Bool.and_eq_true] at h
      exact PE.imp (pe_ix ix_U (soO k h.1.1 ((h_x X sc Wx _ k tk).1 h.1.1)) (soO k h.1.2 ((h_y X sc Wx _ k tk).1 h.1.2)) (ix_of h.2)) imp_bin
    · cases h
theorem so_sfrom {x : IE} {y : IE} (h_x : SoE ce C fn N x) (h_y : SoE ce C fn N y) : SoE ce C fn N (.sfrom x y) := so_of rfl rfl fun X sc Wx a k tk h => by
    simp only [chB, CB.of] at h
    split at h
    · simp only [Bool.and_eq_true] at h
      exact PE.imp (pe_slice sl_U (soO k h.1 ((h_x X sc Wx _ k tk).1 h.1)) (po_some (soO k h.2 ((h_y X sc Wx _ k tk).1 h.2))) po_none) imp_from
    · cases h
theorem so_upto {x : IE} {y : IE} (h_x : SoE ce C fn N x) (h_y : SoE ce C fn N y) : SoE ce C fn N (.upto x y) := so_of rfl rfl fun X sc Wx a k tk h => by
    simp only [chB, CB.of] at h
    split at h
    · simp only [Bool.and_eq_true] at h
      exact PE.imp (pe_slice sl_U (soO k h.1 ((h_x X sc Wx _ k tk).1 h.1)) po_none (po_some (soO k h.2 ((h_y X sc Wx _ k tk).1 h.2)))) imp_upto
    · cases h
theorem so_cut {x : IE} {y : IE} {z : IE} (h_x : SoE ce C fn N x) (h_y : SoE ce C fn N y) (h_z : SoE ce C fn N z) : SoE ce C fn N (.cut x y z) := so_of rfl rfl fun X sc Wx a k tk h => by
    simp only [chB, CB.of] at h
    split at h
    · simp only [Bool.and_eq_true] at h
      exact PE.imp (pe_slice sl_U (soO k h.1.1 ((h_x X sc Wx _ k tk).1 h.1.1)) (po_some (soO k h.1.2 ((h_y X sc Wx _ k tk).1 h.1.2))) (po_some (soO k h.2 ((h_z X sc Wx _ k tk).1 h.2)))) imp_cut
    · cases h
theorem so_rev {x : IE} (h_x : SoE ce C fn N x) : SoE ce C fn N (.rev x) := so_of rfl rfl fun X sc Wx a k tk h => by
    simp only [chB, CB.of] at h
    split at h
    · simp only [Bool.and_eq_true, decide_eq_true_eq] at h
      obtain ⟨h1, rfl⟩ := h
      exact PE.imp (pe_revL (soO k h1 ((h_x X sc Wx _ k tk).1 h1))) imp_rev
    · cases h
theorem so_call {f : Nat} {r : IA} (hA_r : SoA ce C fn N r) : SoE ce C fn N (.call f r) := so_of rfl rfl fun X sc Wx a k tk h => by
    simp only [chB, CB.of] at h
    split at h
    · simp only [Bool.and_eq_true, decide_eq_true_eq] at h
      obtain ⟨⟨⟨h1, h2⟩, h3⟩, h4⟩ := h
      obtain ⟨n1, _, _⟩ := names_of h3
      obtain ⟨b, fd, ps, L, hr, hm, hk, hb, hl, F⟩ := k.fns f _ _ h1
      have hs := chA_star h4
      rw [List.all_cons, Bool.and_eq_true] at hs
      exact PE.imp (pe_callS F hr (k.sg _ h2) hm hk hb (fun σ => passAt tk σ) (hA_r X sc Wx _ k tk h4) n1 (star_of hs.1) (any_star hs.2)) imp_call
    · cases h
theorem so_blt {f : Bf} {r : IA} (hO_r : SoO ce C fn N r) : SoE ce C fn N (.blt f r) := so_of rfl rfl fun X sc Wx a k tk h => by
    simp only [chB, CB.of] at h
    split at h
    · simp only [Bool.and_eq_true, decide_eq_true_eq] at h
      obtain ⟨⟨h1, h2⟩, h3⟩ := h
      exact PE.imp (bu_any k h1 h2 (hO_r X sc Wx _ k tk h3) (chA_star h3)) imp_blt
    · cases h
theorem so_pop {i : Nat} {x : IE} (h_x : SoE ce C fn N x) : SoE ce C fn N (.pop i x) := so_of rfl rfl fun X sc Wx a k tk h => by
    simp only [chB, CB.of] at h
    split at h
    · simp only [Bool.and_eq_true, decide_eq_true_eq] at h
      obtain ⟨⟨⟨⟨⟨⟨h1, h2⟩, h3⟩, rfl⟩, h5⟩, h6⟩, h7⟩ := h
      obtain ⟨n1, n2, _⟩ := names_of h3
      have hs := star_of (es := []) (env := X.env) h6
      refine PE.imp (pe_bm PySem.F.plainAttrs_list PySem.F.slot_list_pop PySem.F.type_list_pop mt_popAt (pe_var (by rw [k.hN]; exact h1) (k.sv _ h2) n1 n2) (pa_cons ((h_x X sc Wx _ k tk).1 h5) pa_nil hs) rfl ?_ h7 hs rfl) imp_pop
      rw [hs]; rfl
    · cases h
theorem so_setLen {x : IE} (h_x : SoE ce C fn N x) : SoE ce C fn N (.setLen x) := so_of rfl rfl fun X sc Wx a k tk h => by
    simp only [chB, CB.of] at h
    split at h
    · simp only [Bool.and_eq_true, decide_eq_true_eq] at h
      obtain ⟨⟨⟨⟨⟨rfl, h2⟩, rfl⟩, h4⟩, h5⟩, h6⟩ := h
      exact PE.imp (pe_lenW k.calm (k.sg _ h2) (k.bn _ (by decide +kernel)) (k.sg _ h4) (k.bn _ (by decide +kernel)) (soO k h5 ((h_x X sc Wx _ k tk).1 h5)) (star_of h6)) imp_setLen
    · cases h
theorem tn_boot : ∀ t : Tn, bootBuiltins (tnName t) = some (.type (tnS t)) ∧ tnName t ∈ bNames ∧ tnName t ≠ "__name__" ∧ (tnName t == ("__debug__" : Str)) = false
  | .tuple => by decide +kernel
  | .list => by decide +kernel
  | .str => by decide +kernel
  | .int => by decide +kernel
  | .bool => by decide +kernel
theorem so_isT {x : IE} {t : Tn} (h_x : SoE ce C fn N x) : SoE ce C fn N (.isT x t) := so_of rfl rfl fun X sc Wx a k tk h => by
    simp only [chB, CB.of] at h
    split at h
    · rename_i pos
      simp only [Bool.and_eq_true, decide_eq_true_eq] at h
      obtain ⟨⟨⟨⟨⟨rfl, h2⟩, h3⟩, h4⟩, rfl⟩, h6⟩ := h
      obtain ⟨b1, b2, b3, b4⟩ := tn_boot t
      refine PE.imp (pe_callB call_isi (k.sg _ h2) (k.bn _ (by decide +kernel)) (by decide +kernel) (pa_cons (soO k h3 ((h_x X sc Wx _ k tk).1 h3)) (pa_cons (pe_tyName (k.sg _ h6) (k.bn _ b2) b1 b3 b4) pa_nil rfl) (star_of h4)) (by decide +kernel) (by decide +kernel) (star_of h4) ?_) imp_isT
      exact any_star rfl
    · cases h
theorem so_comp {elt : IE} {g : TgI} {src : SI} {cond : IE} {has : Bool} (h_elt : SoE ce C fn N elt) (hI_src : SoI ce C fn N src) (h_cond : SoE ce C fn N cond) : SoE ce C fn N (.comp elt g src cond has) := so_of rfl rfl fun X sc Wx a k tk h => by
    simp only [chB, CB.of] at h
    split at h
    · rename_i e tg it ifs kk scope pos
      simp only [Bool.and_eq_true, decide_eq_true_eq] at h
      obtain ⟨⟨⟨⟨⟨⟨⟨rfl, h2⟩, h3⟩, h4⟩, h5⟩, h6⟩, h7⟩, h8⟩ := h
      have blk := blkOk_by h5
      have blk' : BlkOk X.N X.env.scope scope (ckOwn N g) := by
        rw [k.hN]
        exact ⟨blk.kind, blk.uniq, blk.ix, fun y hy e => k.sf _ (blk.free y hy e), blk.own⟩
      have r := pe_lc (X := X) (elt := e) (tg := tg) (iter := it) (ifs := ifs) (scope := scope) (own := ckOwn N g) (pos := pos) k.calm (by rw [k.hN]; exact k.nd) (hI_src X sc Wx tg it k tk h2) blk'
        (fun s H c cl fp => tg_chk (X := X.blk s H scope (compEnvC scope cl c X.env) fp) k.blk h4) (g := gOf X.K g) (tt := tCond X.K ce C cond has) (te := tI X.K ce (fun _ _ _ _ => False) (evB C elt).v) (fun s H c cl fp => ?_) (fun s H c cl fp => (h_elt (X.blk s H scope (compEnvC scope cl c X.env) fp) scope (fun _ _ _ _ => False) e k.blk takes0).1 h8) (fold_of h3)
      · rw [h6] at r
        exact PE.imp r imp_comp
      · cases has with
        | true =>
          match ifs, h7 with
          | [], h7 => exact (Bool.false_ne_true h7).elim
          | [d], h7 => exact pts_one ((h_cond (X.blk s H scope (compEnvC scope cl c X.env) fp) scope (fun _ _ _ _ => False) _ k.blk takes0).2 h7)
          | _ :: _ :: _, h7 => exact (Bool.false_ne_true h7).elim
        | false =>
          match ifs, h7 with
          | [], h7 => exact pts_nil
          | _ :: _, h7 => exact (Bool.false_ne_true h7).elim
    · cases h
theorem sa_nil : SoA ce C fn N .nil := fun X sc Wx es k tk h => by
  cases es with
  | nil => exact PA.imp pa_nil imp_anil
  | cons _ _ => exact (Bool.false_ne_true h).elim
theorem sa_cons {e : IE} {r : IA} (he : SoE ce C fn N e) (hr : SoA ce C fn N r) : SoA ce C fn N (.cons e r) := fun X sc Wx es k tk h => by
  cases es with
  | nil => exact (Bool.false_ne_true h).elim
  | cons x xs =>
    rw [chA] at h
    simp only [Bool.and_eq_true] at h
    exact PA.imp (pa_cons ((he X sc Wx x k tk).1 h.1.1) (hr X sc Wx xs k tk h.2) (star_of h.1.2)) imp_acons
theorem sos_nil : SoO ce C fn N .nil := fun X sc Wx es k tk h => by
  cases es with
  | nil => exact PA.imp pa_nil imp_onil
  | cons _ _ => exact (Bool.false_ne_true h).elim
theorem sos_cons {e : IE} {r : IA} (he : SoE ce C fn N e) (hr : SoO ce C fn N r) : SoO ce C fn N (.cons e r) := fun X sc Wx es k tk h => by
  cases es with
  | nil => exact (Bool.false_ne_true h).elim
  | cons x xs =>
    rw [chA] at h
    simp only [Bool.and_eq_true] at h
    exact PA.imp (pa_cons (soO k h.1.1 ((he X sc Wx x k tk).1 h.1.1)) (hr X sc Wx xs k tk h.2) (star_of h.1.2)) imp_ocons
theorem si_seq {e : IE} (he : SoE ce C fn N e) : SoI ce C fn N (.seq e) := fun X sc Wx tg a k tk h => by
  unfold chI at h
  exact PI.imp (pi_seq ((he X sc Wx a k tk).1 h)) imp_seq
theorem si_rng {e : IE} (he : SoE ce C fn N e) : SoI ce C fn N (.rng e) := fun X sc Wx tg a k tk h => by
  unfold chI at h
  split at h
  · simp only [Bool.and_eq_true, decide_eq_true_eq] at h
    obtain ⟨⟨⟨rfl, h2⟩, h3⟩, h4⟩ := h
    have hs := star_of (es := []) (env := X.env) h4
    exact PI.imp (pi_range1 (k.sg _ h2) (k.bn _ (by decide +kernel)) (pa_cons ((he X sc Wx _ k tk).1 h3) pa_nil hs) hs) imp_rng
  · cases h
theorem si_enm {e : IE} (he : SoE ce C fn N e) : SoI ce C fn N (.enm e) := fun X sc Wx tg a k tk h => by
  unfold chI at h
  split at h
  · simp only [Bool.and_eq_true, decide_eq_true_eq] at h
    obtain ⟨⟨⟨⟨rfl, h2⟩, h3⟩, h4⟩, h5⟩ := h
    have hs := star_of (es := []) (env := X.env) h4
    cases tg with
    | Tuple es kk tpos => exact PI.imp (pi_en (k.sg _ h2) (k.bn _ (by decide +kernel)) (pa_cons ((he X sc Wx _ k tk).1 h3) pa_nil hs) hs) imp_enm
    | _ => cases h5
  · cases h
mutual
theorem so : ∀ e : IE, SoE ce C fn N e
  | .var i => so_var 
  | .non => so_non 
  | .bl b => so_bl 
  | .int i => so_int 
  | .str s => so_str 
  | .tup r => so_tup (soA r)
  | .lst r => so_lst (soA r)
  | .bin o x y => so_bin (so x) (so y)
  | .cmp o x y => so_cmp (so x) (so y)
  | .andE x y => so_andE (so x) (so y)
  | .orE x y => so_orE (so x) (so y)
  | .notE x => so_notE (so x)
  | .ifE c x y => so_ifE (so c) (so x) (so y)
  | .idx x y => so_idx (so x) (so y)
  | .sfrom x y => so_sfrom (so x) (so y)
  | .upto x y => so_upto (so x) (so y)
  | .cut x y z => so_cut (so x) (so y) (so z)
  | .rev x => so_rev (so x)
  | .call f r => so_call (soA r)
  | .blt f r => so_blt (soOs r)
  | .pop i x => so_pop (so x)
  | .setLen x => so_setLen (so x)
  | .isT x t => so_isT (so x)
  | .comp elt g src cond has => so_comp (so elt) (soI src) (so cond)
theorem soA : ∀ r : IA, SoA ce C fn N r
  | .nil => sa_nil
  | .cons e r => sa_cons (so e) (soA r)
theorem soOs : ∀ r : IA, SoO ce C fn N r
  | .nil => sos_nil
  | .cons e r => sos_cons (so e) (soOs r)
theorem soI : ∀ r : SI, SoI ce C fn N r
  | .seq e => si_seq (so e)
  | .rng e => si_rng (so e)
  | .enm e => si_enm (so e)
end
end
end LL

set_option Elab.async false
set_option linter.all false
set_option maxRecDepth 100000
set_option maxHeartbeats 4000000
/-! LLk: statements. -/
namespace LL
open PySem L2

/-- where one looks back to -/
structure Bs where
  φ : List Addr
  Z : Addr → Prop
  B : Addr → Prop
  H : Hp
  hn : ∀ a, H a = none → B a
structure S0 (K : PySem.W.Frag) (b : Bs) (φ : List Addr) (st : ST) (σ : St) (H : Hp) : Prop where
  rel : Rel K φ b.Z st σ H
  ext : Ext b.φ b.B b.H φ H
  own : ∀ a, OE st.env σ a → b.B a
/-- what a return hands out -/
def RetR (K : PySem.W.Frag) (b : Bs) (φ : List Addr) (H : Hp) (S : List SO) (r : RV) (v : V) : Prop :=
  Ext b.φ b.B b.H φ H ∧ match r with
    | .v w => RelS K φ b.Z H S ∧ Rep K φ b.Z H w v
    | .f ws => ∃ p vs, v = .ref p ∧ b.B p ∧ p ∉ φ ∧ ¬ b.Z p ∧ H p = some (.lst vs) ∧ vs.length ≤ sizeLine ∧ RelS K φ (fun a => b.Z a ∨ a = p) H S ∧ Reps K φ (fun a => b.Z a ∨ a = p) H ws vs
section
variable (K : PySem.W.Frag) (ce : Nat → Option Addr) (Wx : WX)
def OutS (b : Bs) (r : RS) (D : Ends) : Prop := match r with
  | .nx st => ∀ φ σ H, S0 K b φ st σ H → D.nx σ H
  | .brk st => ∀ φ σ H, S0 K b φ st σ H → D.bk σ H
  | .cnt st => ∀ φ σ H, S0 K b φ st σ H → D.ct σ H
  | .ret r S => ∀ φ H v, RetR K b φ H S r v → D.rt v H
  | .exn c fs st => ∀ φ σ H cls d, S0 K b φ st σ H → ExnR K ce φ (AV b.Z st.env σ) H c fs cls d → Wx cls d σ H
  | .bad => False
def tIS (m : ST → RS) : TS := fun D σ H => ∃ b φ st, S0 K b φ st σ H ∧ OutS K ce Wx b (m st) D
end
section
variable {K : PySem.W.Frag} {ce : Nat → Option Addr} {Wx : WX} {b : Bs} {φ φ1 : List Addr} {st st1 : ST} {σ : St} {H H1 : Hp} {D : Ends}
theorem S0.step (s : S0 K b φ st σ H) (t : Step φ st σ H φ1 st1 H1) (r : Rel K φ1 b.Z st1 σ H1) : S0 K b φ1 st1 σ H1 :=
  ⟨r, s.ext.trans t.ext s.own, fun a h => s.own a (t.own a h)⟩
/-- a statement's expression -/
theorem out_of {α : Type} {m : R α} {g : α → ST → RS} {P : List Addr → (Addr → Prop) → ST → Hp → α → Prop} (s : S0 K b φ st σ H) (o : OutS K ce Wx b (RS.of m g) D)
    (k : ∀ a st1 φ1 H1, m = .ok a st1 → Step φ st σ H φ1 st1 H1 → OutS K ce Wx b (g a st1) D → P φ1 b.Z st1 H1 a) : Out K ce Wx P φ b.Z st σ H m := by
  cases m with
  | bad => exact o
  | exn c fs st' => exact fun φ' H' cls d t r x => o φ' σ H' cls d (s.step t r) x
  | ok a st1 => exact fun φ' H' t => k a st1 φ' H' rfl t o
/-- looking back to a loop's beginning -/
def Bs.at (b : Bs) (φ1 : List Addr) (env1 : Env') (σ1 : St) (H1 : Hp) : Bs := ⟨φ1, b.Z, fun a => OE env1 σ1 a ∨ H1 a = none, H1, fun _ h => .inr h⟩
theorem back (s : S0 K b φ st σ H) : ∀ a, (OE st.env σ a ∨ H a = none) → b.B a := fun a z => z.elim (s.own a) fun h => b.hn a (Dm.none s.ext.dom h)
theorem S0.up {φ' st' σ' H'} (s : S0 K b φ st σ H) (t : S0 K (b.at φ st.env σ H) φ' st' σ' H') : S0 K b φ' st' σ' H' :=
  ⟨t.rel, s.ext.trans t.ext (back s), fun a h => back s a (t.own a h)⟩
theorem RetR.up {φ' H' S r v} (s : S0 K b φ st σ H) (t : RetR K (b.at φ st.env σ H) φ' H' S r v) : RetR K b φ' H' S r v := by
  refine ⟨s.ext.trans t.1 (back s), ?_⟩
  cases r with
  | v w => exact t.2
  | f ws =>
    obtain ⟨p, vs, e, hb, q⟩ := t.2
    exact ⟨p, vs, e, back s p hb, q⟩
theorem S0.here (s : S0 K b φ st σ H) : S0 K (b.at φ st.env σ H) φ st σ H := ⟨s.rel, .refl, fun a h => .inl h⟩
/-- a slot gets a value -/
theorem S0.setv {env : Env'} {sto : List SO} {i : Nat} {w : W} {v : V} (s : S0 K b φ ⟨env, sto⟩ σ H) (h : Rep K φ (AV b.Z env σ) H w v) : S0 K b φ ⟨env.set i (some (.val w)), sto⟩ (σ.set i (some v)) H :=
  ⟨s.rel.setv h, s.ext, fun a o => s.own a (OE.patch (set_patch s.rel.len h) a o)⟩
/-- a slot gets a list of its own -/
theorem Rel.seto {Z : Addr → Prop} {env : Env'} {sto : List SO} {i : Nat} {ws : List W} {p : Addr} {vs : List V} (r : Rel K φ (fun a => Z a ∨ a = p) ⟨env, sto⟩ σ H) (h1 : p ∉ φ) (h2 : ¬ AV Z env σ p) (h3 : H p = some (.lst vs)) (h4 : vs.length ≤ sizeLine)
    (h5 : Reps K φ (AV (fun a => Z a ∨ a = p) env σ) H ws vs) : Rel K φ Z ⟨env.set i (some (.own ws)), sto⟩ (σ.set i (some (.ref p))) H ∧ ∀ a, OE (env.set i (some (.own ws))) (σ.set i (some (.ref p))) a → OE env σ a ∨ a = p := by
  have hl : env.length = σ.length := r.len
  have oe : ∀ a, OE (env.set i (some (.own ws))) (σ.set i (some (.ref p))) a → OE env σ a ∨ a = p := fun a ⟨j, us, q1, q2⟩ => by
    by_cases hj : i = j
    · subst hj
      have hi : i < σ.length := by
        have := (List.getElem?_eq_some_iff.mp q2).1
        simpa using this
      rw [List.getElem?_set_self hi] at q2
      cases q2
      exact .inr rfl
    · rw [List.getElem?_set_ne hj] at q1 q2
      exact .inl ⟨j, us, q1, q2⟩
  have av : ∀ a, AV Z (env.set i (some (.own ws))) (σ.set i (some (.ref p))) a → AV (fun a => Z a ∨ a = p) env σ a := fun a z => by
    rcases z with z | z
    · exact .inl (.inl z)
    · rcases oe a z with z | z
      · exact .inr z
      · exact .inl (.inr z)
  refine ⟨⟨r.sto.anti av, by rw [List.length_set, List.length_set]; exact hl, fun j s q => ?_, fun j k us us' a q1 q2 q3 q4 => ?_, fun a z zz => ?_, fun a z => r.zd a (.inl z)⟩, oe⟩
  · by_cases hj : i = j
    · subst hj
      have hi : i < env.length := by
        have := (List.getElem?_eq_some_iff.mp q).1
        simpa using this
      rw [List.getElem?_set_self hi] at q
      cases q
      exact ⟨_, List.getElem?_set_self (by rw [← hl]; exact hi), p, vs, rfl, h1, h3, h4, h5.anti av⟩
    · rw [List.getElem?_set_ne hj] at q
      obtain ⟨v, e, sl⟩ := r.env j s q
      exact ⟨v, by rw [List.getElem?_set_ne hj]; exact e, sl.anti av⟩
  · by_cases hj : i = j
    · by_cases hk : i = k
      · exact hj.symm.trans hk
      · subst hj
        rw [List.getElem?_set_ne hk] at q2 q4
        have hi : i < σ.length := by
          have := (List.getElem?_eq_some_iff.mp q3).1
          simpa using this
        rw [List.getElem?_set_self hi] at q3
        cases q3
        exact (h2 (.inr ⟨k, us', q2, q4⟩)).elim
    · by_cases hk : i = k
      · subst hk
        rw [List.getElem?_set_ne hj] at q1 q3
        have hi : i < σ.length := by
          have := (List.getElem?_eq_some_iff.mp q4).1
          simpa using this
        rw [List.getElem?_set_self hi] at q4
        cases q4
        exact (h2 (.inr ⟨j, us, q1, q3⟩)).elim
      · rw [List.getElem?_set_ne hj] at q1 q3
        rw [List.getElem?_set_ne hk] at q2 q4
        exact r.dis j k us us' a q1 q2 q3 q4
  · rcases oe a z with z | z
    · exact r.hid a z (.inl zz)
    · subst z
      exact h2 (.inl zz)
theorem S0.setr {env : Env'} {sto : List SO} {i : Nat} {rv : RV} {v : V} {B : Hp} (s : S0 K b φ ⟨env, sto⟩ σ H) (dm : Dm b.H B) (h : RRep K B φ b.Z ⟨env, sto⟩ σ H rv v) : S0 K b φ ⟨env.set i (some (slOf rv)), sto⟩ (σ.set i (some v)) H := by
  cases rv with
  | v w => exact s.setv h.2
  | f ws =>
    obtain ⟨p, vs, rfl, h0, h1, h2, h3, h4, h5, h6⟩ := h
    obtain ⟨r, oe⟩ := Rel.seto (i := i) h5 h1 h2 h3 h4 h6
    refine ⟨r, s.ext, fun a z => ?_⟩
    rcases oe a z with z | z
    · exact s.own a z
    · rw [z]; exact b.hn p (dm.none h0)
end
end LL

set_option Elab.async false
set_option linter.all false
set_option maxRecDepth 100000
set_option maxHeartbeats 4000000
/-! LLl: the constructs of statements. -/
namespace LL
open PySem L2
section
variable {K : PySem.W.Frag} {ce : Nat → Option Addr} {Wx : WX} {C : CT}
theorem st_asg {i : Nat} {e : IE} : ∀ D σ H, tIS K ce Wx (evS C (.asg i e)) D σ H → tAsg (tI K ce Wx (evB C e).v) (gName i) D σ H := by
  rintro D σ H ⟨b, φ, st, s, o⟩
  simp only [evS, ev] at o
  exact ⟨φ, b.Z, st, s.rel, out_of s o fun r st1 φ1 H1 e1 t o1 v rr => o1 φ1 _ H1 ((s.step t (rr.val).1).setr (env := st1.env) (sto := st1.sto) s.ext.dom rr)⟩
theorem st_asgR {i : Nat} {e : IE} : ∀ D σ H, tIS K ce Wx (evS C (.asgR i e)) D σ H → tAsg (tI K ce Wx (evB C e).v) (gName i) D σ H := by
  rintro D σ H ⟨b, φ, st, s, o⟩
  simp only [evS, ev] at o
  refine ⟨φ, b.Z, st, s.rel, out_of s o fun r st1 φ1 H1 e1 t o1 v rr => ?_⟩
  cases r with
  | v w => exact o1.elim
  | f ws =>
    obtain ⟨p, vs, rfl, h0, h1, h2, h3, h4, h5, h6⟩ := rr
    have rel1 := h5.less (Z' := b.Z) fun a z => .inl z
    have s1 := s.step t rel1
    -- p joins the store
    have av : ∀ a, AV (fun a => b.Z a ∨ a = p) st1.env σ a → (AV b.Z st1.env σ a ∨ a = p) := fun a z => by
      rcases z with (z | z) | z
      · exact .inl (.inl z)
      · exact .inr z
      · exact .inl (.inr z)
    have av' : ∀ a, (AV b.Z st1.env σ a ∨ a = p) → AV (fun a => b.Z a ∨ a = p) st1.env σ a := fun a z => by
      rcases z with (z | z) | z
      · exact .inl (.inl z)
      · exact .inr z
      · exact .inl (.inr z)
    have up : ∀ {w : W} {v : V}, Rep K φ1 (AV (fun a => b.Z a ∨ a = p) st1.env σ) H1 w v → Rep K (φ1 ++ [p]) (AV b.Z st1.env σ) H1 w v := fun {w v} q => (q.anti av').grow
    have ups : ∀ {w : List W} {v : List V}, Reps K φ1 (AV (fun a => b.Z a ∨ a = p) st1.env σ) H1 w v → Reps K (φ1 ++ [p]) (AV b.Z st1.env σ) H1 w v := fun {w v} q => (q.anti av').grow
    have relG : Rel K (φ1 ++ [p]) b.Z ⟨st1.env, st1.sto ++ [.lst ws]⟩ σ H1 := by
      refine ⟨⟨by rw [List.length_append, List.length_append, h5.sto.len]; rfl, ?_, fun a m z => ?_, fun n a so e2 e3 => ?_⟩, h5.len, fun j sl q => ?_, h5.dis, fun a z q => h5.hid a z (.inl q), fun a z => h5.zd a (.inl z)⟩
      · rw [List.nodup_append]
        refine ⟨h5.sto.nd, by simp, fun a m c n => ?_⟩
        have : c = p := by simpa using n
        rw [this]
        exact fun z => h1 (by rw [← z]; exact m)
      · rcases List.mem_append.mp m with m | m
        · exact rel1.sto.av a m z
        · have e : a = p := by simpa using m
          rw [e] at z
          exact h2 z
      · by_cases hn : n < φ1.length
        · rw [List.getElem?_append_left hn] at e2
          rw [List.getElem?_append_left (by rw [← h5.sto.len]; exact hn)] at e3
          have q := h5.sto.obj n a so e2 e3
          cases so with
          | lst us =>
            obtain ⟨xs, q1, q2, q3⟩ := q
            exact ⟨xs, q1, q2, ups q3⟩
        · rw [List.getElem?_append_right (by omega)] at e2
          rw [List.getElem?_append_right (by rw [← h5.sto.len]; omega)] at e3
          rw [← h5.sto.len] at e3
          cases hk : n - φ1.length with
          | zero =>
            rw [hk] at e2 e3
            simp at e2 e3
            subst e2 e3
            exact ⟨vs, h3, h4, ups h6⟩
          | succ m => rw [hk] at e2; simp at e2
      · obtain ⟨v, e2, q⟩ := h5.env j sl q
        refine ⟨v, e2, ?_⟩
        cases sl with
        | val w =>
          obtain ⟨u, e3, r⟩ := q
          exact ⟨u, e3, up r⟩
        | own us =>
          obtain ⟨a, xs, e3, n, h, z, r⟩ := q
          subst e3
          refine ⟨a, xs, rfl, fun m => ?_, h, z, ups r⟩
          rcases List.mem_append.mp m with m | m
          · exact n m
          · have e : a = p := by simpa using m
            subst e
            exact h2 (.inr ⟨j, us, by assumption, e2⟩)
    have hp0 : b.H p = none := Dm.none s.ext.dom h0
    have sG : S0 K b (φ1 ++ [p]) ⟨st1.env, st1.sto ++ [.lst ws]⟩ σ H1 := by
      refine ⟨relG, ⟨s1.ext.pre.trans ⟨[p], rfl⟩, fun a m => ?_, s1.ext.dom, s1.ext.tup, s1.ext.frm⟩, s1.own⟩
      rcases List.mem_append.mp m with m | m
      · exact s1.ext.new a m
      · have e : a = p := by simpa using m
        exact .inr (by rw [e]; exact hp0)
    refine o1 (φ1 ++ [p]) _ H1 (sG.setv (rep_ref.mpr ⟨p, ?_, rfl⟩))
    rw [← h5.sto.len]
    simp
theorem st_ex {e : IE} : ∀ D σ H, tIS K ce Wx (evS C (.ex e)) D σ H → tDrop (tI K ce Wx (evB C e).v) D σ H := by
  rintro D σ H ⟨b, φ, st, s, o⟩
  simp only [evS, ev] at o
  exact ⟨φ, b.Z, st, s.rel, out_of s o fun r st1 φ1 H1 e1 t o1 v rr => o1 φ1 _ H1 (s.step t (rr.val).1)⟩
theorem st_unp {l : List Nat} {e : IE} : ∀ D σ H, tIS K ce Wx (evS C (.unp l e)) D σ H → tAsg (tI K ce Wx (evB C e).v) (gOf K (.tp l)) D σ H := by
  rintro D σ H ⟨b, φ, st, s, o⟩
  simp only [evS, ev] at o
  refine ⟨φ, b.Z, st, s.rel, out_of s o fun r st1 φ1 H1 e1 t o1 v rr => ?_⟩
  obtain ⟨rel1, rep1⟩ := rr.val
  have s1 := s.step t rel1
  cases hs : setT (.tp l) r.w st1.env with
  | none => rw [hs] at o1; exact o1.elim
  | some env =>
    rw [hs] at o1
    exact tg_ok (env := st1.env) (sto := st1.sto) rel1 rep1 hs fun σ2 r2 oe _ _ => o1 φ1 σ2 H1 ⟨r2, s1.ext, fun a z => s1.own a (oe a z)⟩
theorem st_if {c : IE} {x y : IB} : ∀ D σ H, tIS K ce Wx (evS C (.ifS c x y)) D σ H → tIfS (tTst K ce Wx (evB C c).t) (tIS K ce Wx (evSs C x)) (tIS K ce Wx (evSs C y)) D σ H := by
  rintro D σ H ⟨b, φ, st, s, o⟩
  simp only [evS, evT] at o
  refine ⟨φ, b.Z, st, s.rel, out_of s o fun k st1 φ1 H1 e1 t o1 rel1 => ?_⟩
  have s1 := s.step t rel1
  cases k with
  | true => exact iteT ⟨b, φ1, st1, s1, o1⟩
  | false => exact iteF ⟨b, φ1, st1, s1, o1⟩
theorem st_retv {e : IE} (he : ∀ i, e ≠ .var i) : ∀ D σ H, tIS K ce Wx (evS C (.ret e)) D σ H → tRet (tI K ce Wx (evB C e).v) D σ H := by
  rintro D σ H ⟨b, φ, st, s, o⟩
  have eo : evS C (.ret e) st = RS.of (ev C e st) fun r st => .ret r st.sto := by
    cases e <;> first | rfl | exact (he _ rfl).elim
  rw [eo] at o
  simp only [ev] at o
  refine ⟨φ, b.Z, st, s.rel, out_of s o fun r st1 φ1 H1 e1 t o1 v rr => ?_⟩
  have s1 := s.step t rr.val.1
  refine o1 φ1 H1 v ⟨s1.ext, ?_⟩
  have lz : ∀ a, b.Z a → AV b.Z st1.env σ a := fun a z => .inl z
  cases r with
  | v w => exact ⟨rr.1.sto.anti lz, rr.2.anti lz⟩
  | f ws =>
    obtain ⟨p, vs, rfl, h0, h1, h2, h3, h4, h5, h6⟩ := rr
    exact ⟨p, vs, rfl, b.hn p (Dm.none s.ext.dom h0), h1, fun z => h2 (.inl z), h3, h4, h5.sto.anti fun a z => .inl z, h6.anti fun a z => .inl z⟩
theorem st_retx {i : Nat} : ∀ D σ H, tIS K ce Wx (evS C (.ret (.var i))) D σ H → tRet (tVar i) D σ H := by
  rintro D σ H ⟨b, φ, st, s, o⟩
  simp only [evS] at o
  have lz : ∀ a, b.Z a → AV b.Z st.env σ a := fun a z => .inl z
  cases e : st.env[i]? with
  | none => simp only [e] at o; exact o.elim
  | some sl =>
    cases sl with
    | none => simp only [e] at o; exact o.elim
    | some sl =>
      cases sl with
      | val w =>
        simp only [e] at o
        obtain ⟨v, e1, u, rfl, q⟩ := s.rel.env i _ e
        exact ⟨u, e1, o φ H u ⟨s.ext, s.rel.sto.anti lz, q.anti lz⟩⟩
      | own ws =>
        simp only [e] at o
        obtain ⟨a, vs, e1, n, h, z, r⟩ := slot_own s.rel e
        have oe : OE st.env σ a := ⟨i, ws, e, e1⟩
        have av : ∀ x, (b.Z x ∨ x = a) → AV b.Z st.env σ x := fun x z => z.elim .inl fun q => .inr (by rw [q]; exact oe)
        exact ⟨_, e1, o φ H _ ⟨s.ext, a, vs, rfl, s.own a oe, n, s.rel.hid a oe, h, z, s.rel.sto.anti av, r.anti av⟩⟩
theorem st_retN : ∀ D σ H, tIS K ce Wx (evS C .retN) D σ H → tRetN D σ H := by
  rintro D σ H ⟨b, φ, st, s, o⟩
  simp only [evS] at o
  have lz : ∀ a, b.Z a → AV b.Z st.env σ a := fun a z => .inl z
  exact o φ H .non ⟨s.ext, s.rel.sto.anti lz, rep_non.mpr rfl⟩
theorem st_pass : ∀ D σ H, tIS K ce Wx (evS C .pass) D σ H → tNext D σ H := by
  rintro D σ H ⟨b, φ, st, s, o⟩
  simp only [evS] at o
  exact o φ σ H s
theorem st_brk : ∀ D σ H, tIS K ce Wx (evS C .brk) D σ H → tBreak D σ H := by
  rintro D σ H ⟨b, φ, st, s, o⟩
  simp only [evS] at o
  exact o φ σ H s
theorem st_cnt : ∀ D σ H, tIS K ce Wx (evS C .cnt) D σ H → tCont D σ H := by
  rintro D σ H ⟨b, φ, st, s, o⟩
  simp only [evS] at o
  exact o φ σ H s
theorem st_nvr : ∀ D σ H, tIS K ce Wx (evS C .nvr) D σ H → tNever D σ H := by
  rintro D σ H ⟨b, φ, st, s, o⟩
  simp only [evS] at o
  exact o
theorem st_nil : ∀ D σ H, tIS K ce Wx (evSs C .nil) D σ H → tNext D σ H := by
  rintro D σ H ⟨b, φ, st, s, o⟩
  simp only [evSs] at o
  exact o φ σ H s
theorem st_cons {x : IS} {r : IB} : ∀ D σ H, tIS K ce Wx (evSs C (.cons x r)) D σ H → tSeq (tIS K ce Wx (evS C x)) (tIS K ce Wx (evSs C r)) D σ H := by
  rintro D σ H ⟨b, φ, st, s, o⟩
  simp only [evSs] at o
  refine ⟨b, φ, st, s, ?_⟩
  cases hx : evS C x st with
  | nx st1 =>
    rw [hx] at o
    exact fun φ1 σ1 H1 s1 => ⟨b, φ1, st1, s1, o⟩
  | brk st1 => rw [hx] at o; exact o
  | cnt st1 => rw [hx] at o; exact o
  | ret r S => rw [hx] at o; exact o
  | exn c fs st1 => rw [hx] at o; exact o
  | bad => rw [hx] at o; exact o
/-- the one statement of a block -/
theorem st_single {x : IS} : ∀ D σ H, tIS K ce Wx (evSs C (.cons x .nil)) D σ H → tIS K ce Wx (evS C x) D σ H := by
  rintro D σ H ⟨b, φ, st, s, o⟩
  simp only [evSs] at o
  refine ⟨b, φ, st, s, ?_⟩
  cases hx : evS C x st with
  | nx st1 => rw [hx] at o; exact o
  | brk st1 => rw [hx] at o; exact o
  | cnt st1 => rw [hx] at o; exact o
  | ret r S => rw [hx] at o; exact o
  | exn c fs st1 => rw [hx] at o; exact o
  | bad => rw [hx] at o; exact o
theorem st_app {i : Nat} {e : IE} : ∀ D σ H, tIS K ce Wx (evS C (.app i e)) D σ H → tDrop (tBM K "list" rAppend (tVar i) (tCons (tI K ce Wx (evB C e).v) tNil)) D σ H := by
  rintro D σ H ⟨b, φ, st, s, o⟩
  simp only [evS, ev] at o
  split at o
  · rename_i ws0 e0
    obtain ⟨a, vs0, es, n0, h0, z0, r0⟩ := slot_own s.rel e0
    refine ⟨_, es, .inl ⟨rfl, _, .of h0⟩, φ, b.Z, st, s.rel, out_of s o fun r st1 φ1 H1 e1 t o1 v1 rr => ?_⟩
    obtain ⟨rel1, rep1⟩ := rr.val
    have s1 := s.step t rel1
    split at o1
    · rename_i ws ee
      obtain ⟨a', vs, es', n1, h1, z1, r1⟩ := slot_own rel1 ee
      rw [es] at es'; cases es'
      split at o1
      · rename_i hz
        have hz' : vs.length + 1 ≤ sizeLine := by rw [r1.length]; exact of_decide_eq_true hz
        refine ⟨a, vs, v1, rfl, rfl, h1, hz', ?_⟩
        obtain ⟨rel2, t2⟩ := rel1.mut ee es h1 (r1.append (.cons rep1 .nil)) (by rw [List.length_append]; exact hz')
        exact o1 φ1 σ _ (s1.step t2 rel2)
      · exact o1.elim
    · exact o1.elim
  · rename_i n0 e0
    obtain ⟨v0, es0, u0, hu0, rr0⟩ := s.rel.env i _ e0
    subst hu0
    obtain ⟨a, ea, rfl⟩ := rep_ref.mp rr0
    have hn0 : n0 < st.sto.length := by rw [← s.rel.sto.len]; exact (List.getElem?_eq_some_iff.mp ea).1
    have obj0 := s.rel.sto.obj n0 a _ ea (List.getElem?_eq_getElem hn0)
    have hl0 : ∃ xs, H a = some (.lst xs) := by
      cases hso : st.sto[n0] with
      | lst us =>
        rw [hso] at obj0
        obtain ⟨xs, q, _⟩ := obj0
        exact ⟨xs, q⟩
    obtain ⟨xs0, h0⟩ := hl0
    refine ⟨_, es0, .inl ⟨rfl, _, .of h0⟩, φ, b.Z, st, s.rel, out_of s o fun r st1 φ1 H1 e1 t o1 v1 rr => ?_⟩
    obtain ⟨rel1, rep1⟩ := rr.val
    have s1 := s.step t rel1
    split at o1
    · rename_i n ee
      obtain ⟨v2, es2, u2, hu2, rr2⟩ := rel1.env i _ ee
      subst hu2
      rw [es0] at es2; cases es2
      obtain ⟨a2, ea2, hv2⟩ := rep_ref.mp rr2
      cases hv2
      cases hso : st1.sto[n]? with
      | none => simp only [hso] at o1; exact o1.elim
      | some so =>
        cases so with
        | lst ws =>
          simp only [hso] at o1
          obtain ⟨vs, h1, z1, r1⟩ := rel1.sto.obj n _ _ ea2 hso
          split at o1
          · rename_i hz
            have hz' : vs.length + 1 ≤ sizeLine := by rw [r1.length]; exact of_decide_eq_true hz
            refine ⟨_, vs, v1, rfl, rfl, h1, hz', ?_⟩
            obtain ⟨rel2, t2⟩ := rel1.mutS ea2 hso (r1.append (.cons rep1 .nil)) (by rw [List.length_append]; exact hz')
            exact o1 φ1 σ _ (s1.step t2 rel2)
          · exact o1.elim
    · exact o1.elim
  · exact o.elim
theorem st_setI {eo ek e : IE} : ∀ D σ H, tIS K ce Wx (evS C (.setI eo ek e)) D σ H → tAsg (tI K ce Wx (evB C e).v) (gSub (tO K ce Wx (opd eo (evB C eo).v)) (tO K ce Wx (opd ek (evB C ek).v)) rSetL) D σ H := by
  rintro D σ H ⟨b, φ, st, s, o⟩
  simp only [evS] at o
  refine ⟨φ, b.Z, st, s.rel, out_of s o fun r st1 φ1 H1 e1 t1 o1 v1 rr => ?_⟩
  obtain ⟨rel1, rep1⟩ := rr.val
  have s1 := s.step t1 rel1
  refine ⟨φ1, b.Z, st1, rel1, out_of s1 o1 fun x st2 φ2 H2 e2 t2 o2 rel2 v2 ov2 => ?_⟩
  have s2 := s1.step t2 rel2
  refine ⟨φ2, b.Z, st2, rel2, out_of s2 o2 fun y st3 φ3 H3 e3 t3 o3 rel3 v3 ov3 => ?_⟩
  have s3 := s2.step t3 rel3
  split at o3
  · rename_i n j d1 d2
    have w1 := (ov2.step t3).top rel3 d1
    have w2 := ov3.top rel3 d2
    rcases w1 with w1 | ⟨_, _, _, w1, _⟩
    · obtain ⟨a, ea, rfl⟩ := rep_ref.mp w1
      cases hso : st3.sto[n]? with
      | none => simp only [hso] at o3; exact o3.elim
      | some so =>
        cases so with
        | lst ws =>
          simp only [hso] at o3
          obtain ⟨vs, h1, z1, r1⟩ := rel3.sto.obj n _ _ ea hso
          cases hk : ixN ws.length j with
          | none => simp only [hk] at o3; exact o3.elim
          | some q =>
            simp only [hk] at o3
            refine ⟨a, vs, j, q, rfl, w2.int, h1, by rw [r1.length]; exact hk, ?_⟩
            obtain ⟨rel4, t4⟩ := rel3.mutS ea hso (r1.set q ((t2.trans t3).rep rep1)) (by rw [List.length_set]; exact z1)
            exact o3 φ3 σ _ (s3.step t4 rel4)
    · cases w1
  · exact o3.elim
/-! ### loops -/
theorem st_whl {c : IE} {x : IB} : ∀ D σ H, tIS K ce Wx (evS C (.whl c x)) D σ H → tWhile (tTst K ce Wx (evB C c).t) (tIS K ce Wx (evSs C x)) D σ H := by
  rintro D σ H ⟨b, φ, st, s, o⟩
  simp only [evS, evT] at o
  refine ⟨fun m σ' H' => ∃ φ' ste, S0 K b φ' ste σ' H' ∧ OutS K ce Wx b (whileL (evB C c).t (evSs C x) m ste) D, ⟨FU, φ, st, s, o⟩, ?_⟩
  rintro m σ' H' ⟨φ', ste, se, oe⟩
  cases m with
  | zero => exact oe.elim
  | succ m =>
    unfold whileL at oe
    refine ⟨φ', b.Z, ste, se.rel, out_of se oe fun k st1 φ1 H1 e1 t o1 rel1 => ?_⟩
    have s1 := se.step t rel1
    cases k with
    | false => exact iteF (o1 φ1 σ' H1 s1)
    | true =>
      refine iteT ⟨fun σ2 H2 => ∃ m', m' < m + 1 ∧ ∃ φ' ste, S0 K b φ' ste σ2 H2 ∧ OutS K ce Wx b (whileL (evB C c).t (evSs C x) m' ste) D, fun σ2 H2 h => h, b, φ1, st1, s1, ?_⟩
      rw [if_pos rfl] at o1
      cases hb : evSs C x st1 with
      | nx st2 => rw [hb] at o1; exact fun φ2 σ2 H2 s2 => ⟨m, Nat.lt_succ_self m, φ2, st2, s2, o1⟩
      | cnt st2 => rw [hb] at o1; exact fun φ2 σ2 H2 s2 => ⟨m, Nat.lt_succ_self m, φ2, st2, s2, o1⟩
      | brk st2 => rw [hb] at o1; exact o1
      | ret r S => rw [hb] at o1; exact o1
      | exn c fs st2 => rw [hb] at o1; exact o1
      | bad => rw [hb] at o1; exact o1
/-- one turn of a for -/
def fStep (C : CT) (g : TgI) (x : IB) (w : W) (st : ST) : RS := match setT g w st.env with
  | some env => evSs C x { st with env := env }
  | none => .bad
theorem forS_eq {g : TgI} {src : SI} {x : IB} {st : ST} : evS C (.forS g src x) st = RS.of (evI C src st) fun xs st => forL (fStep C g x) xs st := by
  rw [evS]; rfl
theorem st_for {g : TgI} {src : SI} {x : IB} : ∀ D σ H, tIS K ce Wx (evS C (.forS g src x)) D σ H → tFor (tSI K ce Wx (evI C src)) (gOf K g) (tIS K ce Wx (evSs C x)) D σ H := by
  rintro D σ H ⟨b, φ, st, s, o⟩
  rw [forS_eq] at o
  refine ⟨φ, b.Z, st, s.rel, out_of s o fun xs st1 φ1 H1 e1 t o1 rel1 J itw => ?_⟩
  have s1 := s.step t rel1
  obtain ⟨G, Y, wk, hzl, hG, hY⟩ := itw
  let b1 := b.at φ1 st1.env σ H1
  have b1ok : ∀ a, b1.B a → AV b.Z st1.env σ a ∨ H1 a = none := fun a z => z.elim (fun z => .inl (.inr z)) .inr
  -- the walk's own condition
  have hG' : ∀ {φ' H'}, Ext φ1 b1.B H1 φ' H' → G H' := fun {φ' H'} e =>
    hG φ' (AV b.Z st1.env σ) H' ⟨e.pre, e.new, e.dom, e.tup, fun a o h n na => e.frm a o h n fun z => (b1ok a z).elim na fun q => by rw [h] at q; cases q⟩ fun _ z => z
  refine for_it wk (fun i σ' H' => ∃ φ' ste, S0 K b1 φ' ste σ' H' ∧ OutS K ce Wx b (forL (fStep C g x) (xs.drop i) ste) D) ⟨φ1, st1, s1.here, o1⟩ ?_ ?_ ?_
  · rintro i σ' H' _ ⟨φ', ste, se, _⟩
    exact hG' se.ext
  · rintro i x' σ' H' H'' hi ⟨φ', ste, se, oe⟩ hy
    obtain ⟨w, hw, yl⟩ := hY i H' x' H'' hi (hG' se.ext) hy
    have hdrop : xs.drop i = w :: xs.drop (i + 1) := by
      obtain ⟨h1, h2⟩ := List.getElem?_eq_some_iff.mp hw
      rw [List.drop_eq_getElem_cons h1, h2]
    rw [hdrop] at oe
    unfold forL fStep at oe
    cases hset : setT g w ste.env with
    | none => rw [hset] at oe; exact oe.elim
    | some env' =>
      rw [hset] at oe
      dsimp only at oe
      have extA : Ext φ1 (AV b.Z st1.env σ) H1 φ' H' := ⟨se.ext.pre, se.ext.new, se.ext.dom, se.ext.tup, fun a o h n na => se.ext.frm a o h n fun z => (b1ok a z).elim na fun q => by rw [h] at q; cases q⟩
      obtain ⟨repx, hpp⟩ := yld_rep yl extA (fun _ z => z) (A' := AV b.Z ste.env σ') fun a z => z.elim (fun z => .inl (.inl z)) fun z => b1ok a (se.own a z)
      have sJ : S0 K b1 φ' ste σ' H'' := by
        rcases hpp with rfl | ⟨p, ob, h0, rfl⟩
        · exact se
        · exact ⟨se.rel.upd h0, se.ext.trans (Ext.upd (B := fun _ => False) h0) fun _ z => z.elim, se.own⟩
      refine tg_ok (env := ste.env) (sto := ste.sto) sJ.rel repx hset fun σ2 r2 oe2 _ _ => ?_
      have s2 : S0 K b1 φ' ⟨env', ste.sto⟩ σ2 H'' := ⟨r2, sJ.ext, fun a z => sJ.own a (oe2 a z)⟩
      refine ⟨b1, φ', ⟨env', ste.sto⟩, s2, ?_⟩
      cases hb : evSs C x ⟨env', ste.sto⟩ with
      | nx st2 => rw [hb] at oe; exact fun φ2 σ2 H2 s2 => ⟨φ2, st2, s2, oe⟩
      | cnt st2 => rw [hb] at oe; exact fun φ2 σ2 H2 s2 => ⟨φ2, st2, s2, oe⟩
      | brk st2 => rw [hb] at oe; exact fun φ2 σ2 H2 s2 => oe φ2 σ2 H2 (s1.up s2)
      | ret r S => rw [hb] at oe; exact fun φ2 H2 v rr => oe φ2 H2 v (RetR.up s1 rr)
      | exn c fs st2 => rw [hb] at oe; exact fun φ2 σ2 H2 cls d s2 xx => oe φ2 σ2 H2 cls d (s1.up s2) xx
      | bad => rw [hb] at oe; exact oe.elim
  · rintro σ' H' ⟨φ', ste, se, oe⟩
    rw [List.drop_length] at oe
    exact oe φ' σ' H' (s1.up se)
/-! ### two names at once -/
/-- both results, then both slots -/
theorem st_par {i j : Nat} {x y : IE} : ∀ D σ H, tIS K ce Wx (evS C (.par i j x y)) D σ H →
    tI K ce Wx (evB C x).v σ H fun v H1 => tI K ce Wx (evB C y).v σ H1 fun w H2 => ∀ H3, (H3 = H2 ∨ ∃ p o, H2 p = none ∧ H3 = upd H2 p o) → D.nx ((σ.set i (some v)).set j (some w)) H3 := by
  rintro D σ H ⟨b, φ, st, s, o⟩
  simp only [evS, ev] at o
  refine ⟨φ, b.Z, st, s.rel, out_of s o fun r st1 φ1 H1 e1 t1 o1 v rr => ?_⟩
  have s1 := s.step t1 rr.val.1
  -- the first result is kept apart while the second is reckoned
  cases r with
  | v w =>
    obtain ⟨rel1, rep1⟩ := rr
    refine ⟨φ1, b.Z, st1, rel1, out_of s1 o1 fun q st2 φ2 H2 e2 t2 o2 u qq H3 h3 => ?_⟩
    have s2 := s1.step t2 qq.val.1
    have rep2 := t2.rep rep1
    have sA : S0 K b φ2 ⟨st2.env.set i (some (.val w)), st2.sto⟩ (σ.set i (some v)) H2 := s2.setv (env := st2.env) (sto := st2.sto) rep2
    have sB : S0 K b φ2 ⟨(st2.env.set i (some (.val w))).set j (some (slOf q)), st2.sto⟩ ((σ.set i (some v)).set j (some u)) H2 := by
      have pat := set_patch (K := K) (φ := φ2) (Z := b.Z) (H := H2) (i := i) s2.rel.len rep2
      have av : ∀ a, AV b.Z (st2.env.set i (some (.val w))) (σ.set i (some v)) a → AV b.Z st2.env σ a := fun a z => z.elim .inl fun o => .inr (OE.patch pat a o)
      refine sA.setr (B := H1) (fun a o h => s1.ext.dom a o h) ?_
      cases q with
      | v w2 => exact ⟨sA.rel, qq.2.anti av⟩
      | f ws =>
        obtain ⟨p, vs, rfl, h0, h1, h2, h3', h4, h5, h6⟩ := qq
        have pat2 := set_patch (K := K) (φ := φ2) (Z := fun a => b.Z a ∨ a = p) (H := H2) (i := i) (v := v) (w := w) s2.rel.len (by
          -- w stood ahead of the second list
          have h7 : Rep K φ1 (fun a => AV b.Z st1.env σ a ∨ a = p) H1 w v := rep1.apart h0
          exact (h7.ext t2.ext fun a z => .inl (.inr z)).anti fun a z => by
            rcases z with (z | z) | z
            · exact .inl (.inl z)
            · exact .inr z
            · exact .inl (.inr (t2.own a z)))
        refine ⟨p, vs, rfl, h0, h1, fun z => h2 (av p z), h3', h4, h5.patch (e1 := st2.env) (by rw [List.length_set, List.length_set]; exact s2.rel.len) pat2, h6.anti fun a z => ?_⟩
        exact z.elim .inl fun o => .inr (OE.patch pat2 a o)
    rcases h3 with rfl | ⟨p, ob, h0, rfl⟩
    · exact o2 φ2 _ _ sB
    · exact o2 φ2 _ _ ⟨sB.rel.upd h0, sB.ext.trans (Ext.upd (B := fun _ => False) h0) fun _ z => z.elim, sB.own⟩
  | f ws1 =>
    obtain ⟨p, vs, rfl, h0, h1, h2, h3, h4, h5, h6⟩ := rr
    have s1' : S0 K ⟨b.φ, fun a => b.Z a ∨ a = p, b.B, b.H, b.hn⟩ φ1 st1 σ H1 := ⟨h5, s1.ext, s1.own⟩
    refine ⟨φ1, fun a => b.Z a ∨ a = p, st1, h5, ?_⟩
    have key : OutS K ce Wx ⟨b.φ, fun a => b.Z a ∨ a = p, b.B, b.H, b.hn⟩ (RS.of ((evB C y).v st1) fun q st => .nx { st with env := (st.env.set i (some (slOf (.f ws1)))).set j (some (slOf q)) })
        { D with nx := fun σ' H' => True } → True := fun _ => trivial
    cases hy : (evB C y).v st1 with
    | bad => rw [hy] at o1; exact o1.elim
    | exn c fs st2 =>
      rw [hy] at o1
      intro φ2 H2 cls d t2 rel2 x
      have rel2' : Rel K φ2 b.Z st2 σ H2 := rel2.less fun a z => .inl z
      refine o1 φ2 σ H2 cls d (s1.step t2 rel2') ⟨x.1, fun f w hf => ?_⟩
      obtain ⟨dd, xs, v, q1, q2, q3, q4, q5, q6⟩ := x.2 f w hf
      have av : ∀ a, AV b.Z st2.env σ a → AV (fun a => b.Z a ∨ a = p) st2.env σ a := fun a z => z.elim (fun z => .inl (.inl z)) .inr
      exact ⟨dd, xs, v, q1, q2, q3, fun z => q4 (av dd z), q5, q6.anti av⟩
    | ok q st2 =>
      rw [hy] at o1
      intro φ2 H2 t2 u qq H3 hh3
      obtain ⟨relq, _⟩ := qq.val
      have pn : p ∉ φ2 := t2.ext.notin h3 h1
      have pno : ¬ OE st1.env σ p := fun z => h2 (.inr z)
      have hp2 : H2 p = some (.lst vs) := t2.ext.frm p _ h3 h1 pno
      have pav : ¬ AV b.Z st2.env σ p := fun z => z.elim (fun z => h2 (.inl z)) fun z => pno (t2.own p z)
      have r6 : Reps K φ2 (AV (fun a => b.Z a ∨ a = p) st2.env σ) H2 ws1 vs := t2.reps h6
      obtain ⟨relA, oeA⟩ := Rel.seto (i := i) (env := st2.env) (sto := st2.sto) relq pn pav hp2 h4 r6
      have hbp : b.B p := b.hn p (Dm.none s.ext.dom h0)
      have s2 := s1.step t2 (relq.less (Z' := b.Z) fun a z => .inl z)
      have sA : S0 K b φ2 ⟨st2.env.set i (some (.own ws1)), st2.sto⟩ (σ.set i (some (.ref p))) H2 := ⟨relA, s2.ext, fun a z => (oeA a z).elim (s2.own a) fun q => by rw [q]; exact hbp⟩
      have sB : S0 K b φ2 ⟨(st2.env.set i (some (.own ws1))).set j (some (slOf q)), st2.sto⟩ ((σ.set i (some (.ref p))).set j (some u)) H2 := by
        have av : ∀ a, AV b.Z (st2.env.set i (some (.own ws1))) (σ.set i (some (.ref p))) a → AV (fun a => b.Z a ∨ a = p) st2.env σ a := fun a z => by
          rcases z with z | z
          · exact .inl (.inl z)
          · rcases oeA a z with z | z
            · exact .inr z
            · exact .inl (.inr z)
        refine sA.setr (B := H1) (fun a o h => s1.ext.dom a o h) ?_
        cases q with
        | v w2 => exact ⟨sA.rel, qq.2.anti av⟩
        | f ws2 =>
          obtain ⟨p2, vs2, rfl, g0, g1, g2, g3, g4, g5, g6⟩ := qq
          have pp : p2 ≠ p := fun z => g2 (.inl (.inr z))
          have g5' : Rel K φ2 (fun a => (b.Z a ∨ a = p2) ∨ a = p) st2 σ H2 := g5.less fun a z => by
            rcases z with (z | z) | z
            · exact .inl (.inl z)
            · exact .inr z
            · exact .inl (.inr z)
          have r7 : Reps K φ2 (AV (fun a => (b.Z a ∨ a = p2) ∨ a = p) st2.env σ) H2 ws1 vs := by
            have q1 : Reps K φ1 (fun a => AV (fun a => b.Z a ∨ a = p) st1.env σ a ∨ a = p2) H1 ws1 vs := h6.apart g0
            refine (q1.ext t2.ext fun a z => .inl (.inr z)).anti fun a z => ?_
            rcases z with ((z | z) | z) | z
            · exact .inl (.inl (.inl z))
            · exact .inr z
            · exact .inl (.inl (.inr z))
            · exact .inl (.inr (t2.own a z))
          have pav2 : ¬ AV (fun a => b.Z a ∨ a = p2) st2.env σ p := fun z => by
            rcases z with (z | z) | z
            · exact h2 (.inl z)
            · exact pp z.symm
            · exact pno (t2.own p z)
          obtain ⟨relC, oeC⟩ := Rel.seto (i := i) (env := st2.env) (sto := st2.sto) g5' pn pav2 hp2 h4 r7
          refine ⟨p2, vs2, rfl, g0, g1, fun z => ?_, g3, g4, relC, g6.anti fun a z => ?_⟩
          · exact g2 (av p2 z)
          · rcases z with (z | z) | z
            · exact .inl (.inl (.inl z))
            · exact .inl (.inr z)
            · rcases oeC a z with z | z
              · exact .inr z
              · exact .inl (.inl (.inr z))
      rcases hh3 with rfl | ⟨p', ob, h0', rfl⟩
      · exact o1 φ2 _ _ sB
      · exact o1 φ2 _ _ ⟨sB.rel.upd h0', sB.ext.trans (Ext.upd (B := fun _ => False) h0') fun _ z => z.elim, sB.own⟩
end
end LL

set_option Elab.async false
set_option linter.all false
set_option maxRecDepth 100000
set_option maxHeartbeats 4000000
/-! LLm: the check of statements and its soundness. -/
namespace LL
open PySem L2

def plainLocal (sc : Scope) (x : Str) : Bool := match sc.names.lookup x with
  | some .local => true
  | _ => false
theorem plainLocal_of {sc : Scope} {x : Str} (h : plainLocal sc x = true) : sc.names.lookup x = some .local := by
  unfold plainLocal at h
  split at h <;> first | assumption | cases h
theorem locl_plain {sc : Scope} {x : Str} (h : plainLocal sc x = true) : locl sc x = true := by
  unfold locl
  rw [plainLocal_of h]
/-- a right side that a name takes -/
inductive Rhs where
  | plain | lc
def notPair : Expr → Bool
  | .Tuple _ _ _ => false
  | _ => true
/-- a comprehension stored at once -/
def swLc (sc : Scope) (x : Str) (px : Pos) : Expr → Bool
  | .ListComp _ _ s pos => plainLocal sc x && (px.line == pos.line) && !(s.names.any fun (n, k) => n == x && (k == .local || k == .cell))
  | _ => false
def okRhs (sc : Scope) (x : Str) (px : Pos) : Expr → Bool
  | .SetComp _ _ _ _ => false
  | .DictComp _ _ _ _ _ => false
  | .ListComp _ _ s pos => !(plainLocal sc x) || (!(px.line == pos.line) && true)
  | _ => true
section
variable (fn : List (Str × Nat)) (N : List Str)
mutual
def chS : IS → Scope → Stmt → Bool
  | .asg i e, sc, s => match s with
    | .Assign [.Name x px] v _ => decide (N[i]? = some x) && locl sc x && (chB fn N e).e sc v && (okRhs sc x px v || swLc sc x px v)
    | _ => false
  | .asgR i e, sc, s => match s with
    | .Assign [.Name x px] v _ => decide (N[i]? = some x) && locl sc x && (chB fn N e).e sc v && okRhs sc x px v
    | _ => false
  | .unp l e, sc, s => match s with
    | .Assign [tg] v _ => chG sc N (.tp l) tg && (chB fn N e).e sc v && notPair v
    | _ => false
  | .par i j a b, sc, s => match s with
    | .Assign [.Tuple [.Name x px, .Name y py] _ _] (.Tuple [u, v] _ _) _ => decide (N[i]? = some x) && locl sc x && decide (N[j]? = some y) && locl sc y && decide (i ≠ j) && (chB fn N a).e sc u && notStar u && (chB fn N b).e sc v && notStar v &&
        (if plainLocal sc x && plainLocal sc y then (py.line == px.line) && (([u, v].all (foldedForSure 8)) || !([u, v].all (constantsAlone 8))) else true)
    | _ => false
  | .setI o k e, sc, s => match s with
    | .Assign [.Subscript x y _] v _ => (chB fn N o).e sc x && (chB fn N k).e sc y && notSlice y && (chB fn N e).e sc v
    | _ => false
  | .app i e, sc, s => match s with
    | .Expr (.Call (.Attribute (.Name x _) m ap) [y] [] cp) _ => decide (N[i]? = some x) && vis sc x && okName x && decide (m = "append") && (chB fn N e).e sc y && notStar y && (ap.endLine == cp.line)
    | _ => false
  | .ex e, sc, s => match s with
    | .Expr v _ => (chB fn N e).e sc v && notComp v
    | _ => false
  | .ifS c a b, sc, s => match s with
    | .If t x y _ => (chB fn N c).t sc t && chSs a sc x && chSs b sc y
    | _ => false
  | .whl c a, sc, s => match s with
    | .While t x [] _ => (chB fn N c).t sc t && chSs a sc x
    | _ => false
  | .forS g src a, sc, s => match s with
    | .For tg it x [] _ => chG sc N g tg && chI fn N src sc tg it && notSet it && chSs a sc x
    | _ => false
  | .ret e, sc, s => match s with
    | .Return (some v) _ => (chB fn N e).e sc v
    | _ => false
  | .retN, sc, s => match s with
    | .Return none _ => true
    | _ => false
  | .pass, sc, s => match s with
    | .Pass _ => true
    | .Expr (.Constant (.str _) _ _) _ => true
    | _ => false
  | .brk, sc, s => match s with
    | .Break _ => true
    | _ => false
  | .cnt, sc, s => match s with
    | .Continue _ => true
    | _ => false
  | .nvr, _, _ => true
def chSs : IB → Scope → List Stmt → Bool
  | .nil, _, [] => true
  | .cons s r, sc, x :: xs => chS s sc x && chSs r sc xs
  | _, _, _ => false
end
end
theorem sw_tuple {v : Expr} {es : List Expr} {k : Nat} {p : Pos} {l : Nat} {env : Env} : swapsWith v (some (.Tuple es k p)) l env = pure false := by
  cases v <;> rfl
theorem sw_sub {v o i : Expr} {p : Pos} {l : Nat} {env : Env} : swapsWith v (some (.Subscript o i p)) l env = pure false := by
  cases v <;> rfl
theorem sst_sub {v o i : Expr} {p : Pos} {env : Env} : swappedStores [.Subscript o i p] v env = pure none := by
  cases v <;> rfl
theorem sst_pair {v : Expr} {es : List Expr} {k : Nat} {p : Pos} {env : Env} (h : notPair v = true) : swappedStores [.Tuple es k p] v env = pure none := by
  cases v <;> first | rfl | cases h
theorem sw_ok {sc : Scope} {x : Str} {px : Pos} {v : Expr} {l : Nat} {env : Env} (hsc : env.scope = sc) (h : okRhs sc x px v = true) : swapsWith v (some (.Name x px)) l env = pure false := by
  cases v with
  | ListComp e g s pos =>
    simp only [okRhs, Bool.and_true, Bool.or_eq_true, Bool.not_eq_true'] at h
    unfold swapsWith
    rcases h with h | h
    · have hk : (env.kindOf x == some .local) = false := by
        unfold Env.kindOf
        rw [hsc]
        unfold plainLocal at h
        split at h
        · cases h
        · rename_i q
          cases e : sc.names.lookup x with
          | none => rfl
          | some k =>
            cases k <;> first | rfl | exact (q e).elim
      simp only [hk, Bool.and_false, Bool.false_and]
    · have h' : (px.line == (Expr.ListComp e g s pos).pos.line) = false := h
      simp only [h', Bool.and_false, Bool.false_and]
  | SetComp _ _ _ _ => cases h
  | DictComp _ _ _ _ _ => cases h
  | _ => rfl
section
variable {ce : Nat → Option Addr} {C : CT} {fn : List (Str × Nat)} {N : List Str}
/-- in a def's body -/
structure Ks (ce : Nat → Option Addr) (C : CT) (fn : List (Str × Nat)) (N : List Str) (X : Cx) (sc : Scope) (Wx : WX) : Prop where
  k : Kx ce C fn N X sc
  esc : X.env.scope = sc
  kind : X.env.scope.kind = .function
  tk : Takes X Wx
  pas : PassesOwn (model X.prog X.w) X.A X.env X.xe
  fnx : ∀ x, locl sc x = true → X.fn x = true ∨ X.env.scope.names.lookup x = some .local
def SoS (ce : Nat → Option Addr) (C : CT) (fn : List (Str × Nat)) (N : List Str) (s : IS) : Prop :=
  ∀ (X : Cx) (sc : Scope) (Wx : WX) (a : Stmt), Ks ce C fn N X sc Wx → chS fn N s sc a = true → PS X a (tIS X.K ce Wx (evS C s))
def SoSs (ce : Nat → Option Addr) (C : CT) (fn : List (Str × Nat)) (N : List Str) (s : IB) : Prop :=
  ∀ (X : Cx) (sc : Scope) (Wx : WX) (a : List Stmt), Ks ce C fn N X sc Wx → chSs fn N s sc a = true → PSs X a (tIS X.K ce Wx (evSs C s))
theorem tAsg_imp {te te' : TE} {g : TG} (h : ∀ σ H Q, te' σ H Q → te σ H Q) : ∀ D σ H, tAsg te' g D σ H → tAsg te g D σ H := fun D σ H q => h σ H _ q
theorem ss_asgLc {i : Nat} {elt : IE} {g : TgI} {src : SI} {cond : IE} {has : Bool} {X : Cx} {sc : Scope} {Wx : WX} (k : Ks ce C fn N X sc Wx) {x : Str} {px pos : Pos} {v : Expr} (h1 : N[i]? = some x) (h2 : swLc sc x px v = true)
    (h : (chB fn N (.comp elt g src cond has)).e sc v = true) : PS X (.Assign [.Name x px] v pos) (tAsg (tI X.K ce Wx (evB C (.comp elt g src cond has)).v) (gName i)) := by
  simp only [chB, CB.of] at h
  split at h
  · rename_i e tg it ifs kk scope pos2
    simp only [Bool.and_eq_true, decide_eq_true_eq] at h
    obtain ⟨⟨⟨⟨⟨⟨⟨rfl, h2'⟩, h3⟩, h4⟩, h5⟩, h6⟩, h7⟩, h8⟩ := h
    simp only [swLc, Bool.and_eq_true, Bool.not_eq_true'] at h2
    obtain ⟨⟨g1, g2⟩, g3⟩ := h2
    have hx : X.env.scope.names.lookup x = some .local := by rw [k.esc]; exact plainLocal_of g1
    have blk := blkOk_by h5
    have blk' : BlkOk X.N X.env.scope scope (ckOwn N g) := by
      rw [k.k.hN]
      exact ⟨blk.kind, blk.uniq, blk.ix, fun y hy e => k.k.sf _ (blk.free y hy e), blk.own⟩
    have r := ps_setLc (X := X) (i := i) (y := x) (py := px) (elt := e) (tg := tg) (iter := it) (ifs := ifs) (scope := scope) (own := ckOwn N g) (pos := pos2) (spos := pos) k.k.calm (by rw [k.k.hN]; exact k.k.nd) (by rw [k.k.hN]; exact h1) hx (sw_true k.kind hx g2 g3) (soI src X sc Wx tg it k.k k.tk h2') blk'
      (fun s H c cl fp => tg_chk (X := X.blk s H scope (compEnvC scope cl c X.env) fp) k.k.blk h4) (g := gOf X.K g) (tt := tCond X.K ce C cond has) (te := tI X.K ce (fun _ _ _ _ => False) (evB C elt).v) (fun s H c cl fp => ?_) (fun s H c cl fp => (so elt (X.blk s H scope (compEnvC scope cl c X.env) fp) scope (fun _ _ _ _ => False) e k.k.blk takes0).1 h8) (fold_of h3)
    · rw [h6] at r
      exact PS.imp r (tAsg_imp imp_comp)
    · cases has with
      | true =>
        match ifs, h7 with
        | [], h7 => exact (Bool.false_ne_true h7).elim
        | [d], h7 => exact pts_one ((so cond (X.blk s H scope (compEnvC scope cl c X.env) fp) scope (fun _ _ _ _ => False) _ k.k.blk takes0).2 h7)
        | _ :: _ :: _, h7 => exact (Bool.false_ne_true h7).elim
      | false =>
        match ifs, h7 with
        | [], h7 => exact pts_nil
        | _ :: _, h7 => exact (Bool.false_ne_true h7).elim
  · cases h
theorem lc_comp {e : IE} {sc : Scope} {x : Str} {px : Pos} {v : Expr} (h : (chB fn N e).e sc v = true) (hl : swLc sc x px v = true) : ∃ elt g src cond has, e = .comp elt g src cond has := by
  cases v with
  | ListComp _ _ _ _ =>
    cases e with
    | comp elt g src cond has => exact ⟨_, _, _, _, _, rfl⟩
    | _ => simp [chB, CB.of] at h
  | _ => cases hl
/-- name = .. -/
theorem ps_nm {i : Nat} {e : IE} {X : Cx} {sc : Scope} {Wx : WX} (k : Ks ce C fn N X sc Wx) {x : Str} {px pos : Pos} {v : Expr} (h1 : N[i]? = some x) (h2 : locl sc x = true) (h3 : (chB fn N e).e sc v = true) (h4 : okRhs sc x px v = true) : PS X (.Assign [.Name x px] v pos) (tAsg (tI X.K ce Wx (evB C e).v) (gName i)) :=
  ps_set (by rw [k.k.hN]; exact k.k.nd) (by rw [k.k.hN]; exact h1) (k.k.sl _ h2) ((so e X sc Wx v k.k k.tk).1 h3) (sw_ok k.esc h4) (k.fnx _ h2)
theorem ss_asg {i : Nat} {e : IE} : SoS ce C fn N (.asg i e) := fun X sc Wx a k h => by
  unfold chS at h
  split at h
  · simp only [Bool.and_eq_true, Bool.or_eq_true, decide_eq_true_eq] at h
    obtain ⟨⟨⟨h1, h2⟩, h3⟩, h4⟩ := h
    refine PS.imp ?_ st_asg
    rcases h4 with h4 | h4
    · exact ps_nm k h1 h2 h3 h4
    · obtain ⟨elt, g, src, cond, has, rfl⟩ := lc_comp h3 h4
      exact ss_asgLc k h1 h4 h3
  · cases h
theorem ss_asgR {i : Nat} {e : IE} : SoS ce C fn N (.asgR i e) := fun X sc Wx a k h => by
  unfold chS at h
  split at h
  · simp only [Bool.and_eq_true, decide_eq_true_eq] at h
    obtain ⟨⟨⟨h1, h2⟩, h3⟩, h4⟩ := h
    exact PS.imp (ps_nm k h1 h2 h3 h4) st_asgR
  · cases h
theorem ss_unp {l : List Nat} {e : IE} : SoS ce C fn N (.unp l e) := fun X sc Wx a k h => by
  unfold chS at h
  split at h
  · rename_i tg v pos
    simp only [Bool.and_eq_true] at h
    obtain ⟨⟨h1, h2⟩, h3⟩ := h
    have hg := tg_chk k.k h1
    unfold chG at h1
    split at h1
    · rename_i q; cases q
    · refine PS.imp (ps_asg ((so e X sc Wx v k.k k.tk).1 h2) hg ?_ (sst_pair h3)) st_unp
      unfold swapsWithSole
      exact sw_tuple
    · cases h1
  · cases h
/-! ### two names -/
theorem sst_two {x y : Str} {px py : Pos} {u v : Expr} {k1 k2 : Nat} {p1 p2 : Pos} {env : Env} (hk : env.scope.kind = .function) (hu : notStar u = true) (hv : notStar v = true) (hx : env.scope.names.lookup x = some .local) (hy : env.scope.names.lookup y = some .local) (hl : (py.line == px.line) = true) (hxy : x ≠ y)
    (h1 : [u, v].all (foldedForSure 8) = false) (h2 : [u, v].all (constantsAlone 8) = false) : swappedStores [.Tuple [.Name x px, .Name y py] k1 p1] (.Tuple [u, v] k2 p2) env = pure (some [x, y]) := by
  have kx : env.kindOf x = some .local := hx
  have ky : env.kindOf y = some .local := hy
  have hb : env.blockKind = .function := by unfold Env.blockKind; rw [hk]; rfl
  have ns : ([u, v].any fun | .Starred .. => true | _ => false) = false := by
    cases u <;> first | exact (Bool.false_ne_true hu).elim | (cases v <;> first | exact (Bool.false_ne_true hv).elim | rfl)
  have hd : ([x, y] : List Str).eraseDups = [x, y] := by
    simp [List.eraseDups_cons, Ne.symm hxy, hxy]
  unfold swappedStores
  simp only [ns, hb, kx, ky, Expr.pos, hl, h1, h2, List.filterMap_cons, List.filterMap_nil, List.head?_cons, Option.map_some, Option.getD_some, hd, List.length_cons, List.length_nil]
  simp [hd]
  intro q
  exfalso
  rcases q with q | q
  · cases u <;> first | exact (Bool.false_ne_true hu).elim | exact (Bool.false_ne_true q).elim
  · cases v <;> first | exact (Bool.false_ne_true hv).elim | exact (Bool.false_ne_true q).elim
theorem sst_none {x y : Str} {px py : Pos} {u v : Expr} {k1 k2 : Nat} {p1 p2 : Pos} {env : Env} (hk : env.scope.kind = .function) (hu : notStar u = true) (hv : notStar v = true)
    (h : env.scope.names.lookup x ≠ some .local ∨ env.scope.names.lookup y ≠ some .local ∨ [u, v].all (foldedForSure 8) = true) : swappedStores [.Tuple [.Name x px, .Name y py] k1 p1] (.Tuple [u, v] k2 p2) env = pure none := by
  have hb : env.blockKind = .function := by unfold Env.blockKind; rw [hk]; rfl
  have ns : ([u, v].any fun | .Starred .. => true | _ => false) = false := by
    cases u <;> first | exact (Bool.false_ne_true hu).elim | (cases v <;> first | exact (Bool.false_ne_true hv).elim | rfl)
  have kk : ∀ z : Str, env.scope.names.lookup z ≠ some .local → (env.kindOf z == some .local) = false := fun z hz => by
    unfold Env.kindOf
    cases e : env.scope.names.lookup z with
    | none => rfl
    | some k => cases k <;> first | rfl | exact (hz e).elim
  unfold swappedStores
  simp only [ns, hb, Expr.pos, List.filterMap_cons, List.filterMap_nil, List.head?_cons, Option.map_some, Option.getD_some, List.length_cons, List.length_nil]
  rcases h with h | h | h
  · have := kk x h
    rcases Bool.eq_false_or_eq_true (env.kindOf y == some .local && py.line == px.line) with q | q <;> simp [this, q]
  · have := kk y h
    by_cases q : env.kindOf x = some .local <;> simp [this, q]
  · simp only [h]
    repeat' (first | rfl | split)
theorem ss_par {i j : Nat} {a b : IE} : SoS ce C fn N (.par i j a b) := fun X sc Wx s k h => by
  unfold chS at h
  split at h
  · rename_i x px y py k1 p1 u v k2 p2 pos
    simp only [Bool.and_eq_true, decide_eq_true_eq] at h
    obtain ⟨⟨⟨⟨⟨⟨⟨⟨⟨h1, h2⟩, h3⟩, h4⟩, h5⟩, h6⟩, h7⟩, h8⟩, h9⟩, h10⟩ := h
    have ea := (so a X sc Wx u k.k k.tk).1 h6
    have eb := (so b X sc Wx v k.k k.tk).1 h8
    have hi : X.N[i]? = some x := by rw [k.k.hN]; exact h1
    have hj : X.N[j]? = some y := by rw [k.k.hN]; exact h3
    have nd : X.N.Nodup := by rw [k.k.hN]; exact k.k.nd
    have pa : PA X [u, v] (tCons (tI X.K ce Wx (evB C a).v) (tCons (tI X.K ce Wx (evB C b).v) tNil)) := pa_cons ea (pa_cons eb pa_nil (star_of h9)) (star_of h7)
    have hsw : swapsWithSole [.Tuple [.Name x px, .Name y py] k1 p1] (.Tuple [u, v] k2 p2) pos.line X.env = pure false := rfl
    -- stored through the pair itself
    have thr : swappedStores [.Tuple [.Name x px, .Name y py] k1 p1] (.Tuple [u, v] k2 p2) X.env = pure none → PS X (.Assign [.Tuple [.Name x px, .Name y py] k1 p1] (.Tuple [u, v] k2 p2) pos) (tIS X.K ce Wx (evS C (.par i j a b))) := fun hw => by
      refine PS.imp (ps_asg (pe_tup pa) (pg_tup k.k.calm (pgs_cons (pg_name nd hi (k.k.sl _ h2) (k.fnx _ h2)) (pgs_cons (pg_name nd hj (k.k.sl _ h4) (k.fnx _ h4)) pgs_nil))) hsw hw) fun D σ H q => ?_
      refine (show tTup (tCons (tI X.K ce Wx (evB C a).v) (tCons (tI X.K ce Wx (evB C b).v) tNil)) σ H _ from ?_)
      obtain ⟨φ, Z, st, rel, o⟩ := st_par D σ H q
      refine ⟨φ, Z, st, rel, o.imp fun φ1 Z1 st1 H1 r z v1 rr => ?_⟩
      obtain ⟨φ2, Z2, st2, rel2, o2⟩ := z v1 rr
      refine ⟨φ2, Z2, st2, rel2, o2.imp fun φ3 Z3 st3 H3 r3 z3 v3 rr3 => ⟨by show 2 ≤ sizeLine; decide, fun p hp => ?_⟩⟩
      exact ⟨p, [v1, v3], rfl, .of upd_same, rfl, v1, [v3], rfl, v3, [], rfl, rfl, z3 v3 rr3 _ (.inr ⟨p, _, hp, rfl⟩)⟩
    by_cases c : plainLocal sc x = true ∧ plainLocal sc y = true
    · rw [if_pos c] at h10
      simp only [Bool.and_eq_true, Bool.or_eq_true, Bool.not_eq_true'] at h10
      have lx : X.env.scope.names.lookup x = some .local := by rw [k.esc]; exact plainLocal_of c.1
      have ly : X.env.scope.names.lookup y = some .local := by rw [k.esc]; exact plainLocal_of c.2
      by_cases f : [u, v].all (foldedForSure 8) = true
      · exact thr (sst_none k.kind h7 h9 (.inr (.inr f)))
      · have hxy : x ≠ y := fun e => by
          subst e
          exact h5 ((List.getElem?_inj (List.getElem?_eq_some_iff.mp h1).1 k.k.nd).mp (h1.trans h3.symm))
        have hw := sst_two (px := px) (py := py) (k1 := k1) (k2 := k2) (p1 := p1) (p2 := p2) k.kind h7 h9 lx ly h10.1 hxy (by simpa using f) (h10.2.resolve_left f)
        refine PS.imp (ps_par k.k.calm nd hi hj h5 lx ly pa hw hsw) fun D σ H q => ?_
        obtain ⟨φ, Z, st, rel, o⟩ := st_par D σ H q
        refine ⟨φ, Z, st, rel, o.imp fun φ1 Z1 st1 H1 r z v1 rr => ?_⟩
        obtain ⟨φ2, Z2, st2, rel2, o2⟩ := z v1 rr
        exact ⟨φ2, Z2, st2, rel2, o2.imp fun φ3 Z3 st3 H3 r3 z3 v3 rr3 => ⟨v1, v3, rfl, z3 v3 rr3 _ (.inl rfl)⟩⟩
    · refine thr (sst_none k.kind h7 h9 ?_)
      rw [k.esc]
      by_cases c1 : sc.names.lookup x = some .local
      · refine .inr (.inl fun c2 => c ?_)
        unfold plainLocal
        rw [c1, c2]; exact ⟨rfl, rfl⟩
      · exact .inl c1
  · cases h
/-! ### the others -/
theorem ss_setI {a b e : IE} : SoS ce C fn N (.setI a b e) := fun X sc Wx s k h => by
  unfold chS at h
  split at h
  · rename_i y _ _ _
    simp only [Bool.and_eq_true] at h
    obtain ⟨⟨⟨h1, h2⟩, h3⟩, h4⟩ := h
    refine PS.imp (ps_asg ((so e X sc Wx _ k.k k.tk).1 h4) (pg_sub (soO k.k h1 ((so a X sc Wx _ k.k k.tk).1 h1)) (soO k.k h2 ((so b X sc Wx _ k.k k.tk).1 h2)) set_list ?_) ?_ sst_sub) st_setI
    · intro v; cases y <;> first | rfl | exact (Bool.false_ne_true h3).elim
    · unfold swapsWithSole; exact sw_sub
  · cases h
theorem ss_app {i : Nat} {e : IE} : SoS ce C fn N (.app i e) := fun X sc Wx s k h => by
  unfold chS at h
  split at h
  · simp only [Bool.and_eq_true, decide_eq_true_eq] at h
    obtain ⟨⟨⟨⟨⟨⟨h1, h2⟩, h3⟩, rfl⟩, h5⟩, h6⟩, h7⟩ := h
    obtain ⟨n1, n2, _⟩ := names_of h3
    have hs := star_of (es := []) (env := X.env) h6
    refine PS.imp (ps_expr (pe_bm PySem.F.plainAttrs_list PySem.F.slot_list_append PySem.F.type_list_append mt_append (pe_var (by rw [k.k.hN]; exact h1) (k.k.sv _ h2) n1 n2) (pa_cons ((so e X sc Wx _ k.k k.tk).1 h5) pa_nil hs) rfl ?_ h7 hs rfl)) st_app
    rw [hs]; rfl
  · cases h
theorem ss_ex {e : IE} : SoS ce C fn N (.ex e) := fun X sc Wx s k h => by
  unfold chS at h
  split at h
  · simp only [Bool.and_eq_true] at h
    exact PS.imp (ps_expr ((so e X sc Wx _ k.k k.tk).1 h.1) (swap_of h.2)) st_ex
  · cases h
theorem ss_if {c : IE} {x y : IB} (hx : SoSs ce C fn N x) (hy : SoSs ce C fn N y) : SoS ce C fn N (.ifS c x y) := fun X sc Wx s k h => by
  unfold chS at h
  split at h
  · simp only [Bool.and_eq_true] at h
    exact PS.imp (ps_if ((so c X sc Wx _ k.k k.tk).2 h.1.1) (hx X sc Wx _ k h.1.2) (hy X sc Wx _ k h.2)) st_if
  · cases h
theorem ss_whl {c : IE} {x : IB} (hx : SoSs ce C fn N x) : SoS ce C fn N (.whl c x) := fun X sc Wx s k h => by
  unfold chS at h
  split at h
  · simp only [Bool.and_eq_true] at h
    exact PS.imp (ps_while k.pas ((so c X sc Wx _ k.k k.tk).2 h.1) (hx X sc Wx _ k h.2)) st_whl
  · cases h
theorem ss_for {g : TgI} {src : SI} {x : IB} (hx : SoSs ce C fn N x) : SoS ce C fn N (.forS g src x) := fun X sc Wx s k h => by
  unfold chS at h
  split at h
  · simp only [Bool.and_eq_true] at h
    exact PS.imp (ps_for k.pas k.k.calm (soI src X sc Wx _ _ k.k k.tk h.1.1.2) (tg_chk k.k h.1.1.1) (hx X sc Wx _ k h.2) (fold_of h.1.2)) st_for
  · cases h
theorem ss_ret {e : IE} : SoS ce C fn N (.ret e) := fun X sc Wx s k h => by
  unfold chS at h
  split at h
  · have he := (so e X sc Wx _ k.k k.tk).1 h
    cases e with
    | var i =>
      simp only [chB, CB.of] at h
      split at h
      · simp only [Bool.and_eq_true, decide_eq_true_eq] at h
        obtain ⟨⟨h1, h2⟩, h3⟩ := h
        obtain ⟨n1, n2, _⟩ := names_of h3
        exact PS.imp (ps_ret (pe_var (by rw [k.k.hN]; exact h1) (k.k.sv _ h2) n1 n2)) st_retx
      · cases h
    | _ => exact PS.imp (ps_ret he) (st_retv (by intro i z; cases z))
  · cases h
theorem ss_retN : SoS ce C fn N .retN := fun X sc Wx s k h => by
  unfold chS at h
  split at h
  · exact PS.imp ps_retN st_retN
  · cases h
theorem ss_pass : SoS ce C fn N .pass := fun X sc Wx s k h => by
  unfold chS at h
  split at h
  · exact PS.imp ps_pass st_pass
  · exact PS.imp ps_doc st_pass
  · cases h
theorem ss_brk : SoS ce C fn N .brk := fun X sc Wx s k h => by
  unfold chS at h
  split at h
  · exact PS.imp ps_break st_brk
  · cases h
theorem ss_cnt : SoS ce C fn N .cnt := fun X sc Wx s k h => by
  unfold chS at h
  split at h
  · exact PS.imp ps_continue st_cnt
  · cases h
theorem ss_nvr : SoS ce C fn N .nvr := fun X sc Wx s k h => PS.imp ps_never st_nvr
theorem sss_nil : SoSs ce C fn N .nil := fun X sc Wx s k h => by
  cases s with
  | nil => exact PSs.imp pss_nil st_nil
  | cons _ _ => simp [chSs] at h
theorem sss_cons {x : IS} {r : IB} (hx : SoS ce C fn N x) (hr : SoSs ce C fn N r) : SoSs ce C fn N (.cons x r) := fun X sc Wx s k h => by
  cases s with
  | nil => simp [chSs] at h
  | cons y ys =>
    simp only [chSs, Bool.and_eq_true] at h
    exact PSs.imp (pss_cons (hx X sc Wx _ k h.1) (hr X sc Wx _ k h.2)) st_cons
mutual
theorem sS : ∀ s : IS, SoS ce C fn N s
  | .asg i e => ss_asg
  | .asgR i e => ss_asgR
  | .unp l e => ss_unp
  | .par i j a b => ss_par
  | .setI o k e => ss_setI
  | .app i e => ss_app
  | .ex e => ss_ex
  | .ifS c a b => ss_if (sSs a) (sSs b)
  | .whl c b => ss_whl (sSs b)
  | .forS g s b => ss_for (sSs b)
  | .ret e => ss_ret
  | .retN => ss_retN
  | .pass => ss_pass
  | .brk => ss_brk
  | .cnt => ss_cnt
  | .nvr => ss_nvr
theorem sSs : ∀ s : IB, SoSs ce C fn N s
  | .nil => sss_nil
  | .cons s r => sss_cons (sS s) (sSs r)
end
end
end LL

set_option Elab.async false
set_option linter.all false
set_option maxRecDepth 100000
set_option maxHeartbeats 4000000
/-! LLn: defs, and a law's end. -/
namespace LL
open PySem L2

/-- a def of the text, with its own words -/
structure DefI where
  x : Str
  qual : Str
  ps : List Str
  N : List Str
  st : Stmt
  fn : FnI
def fnNs (D : List DefI) : List (Str × Nat) := D.map fun d => (d.x, d.ps.length)
def okDef (fn : List (Str × Nat)) (d : DefI) : Bool :=
  C8.scC d.N d.ps (defScope d.st) && decide (d.fn.ns = d.N.length) && decide (d.fn.np = d.ps.length) && chSs fn d.N d.fn.body (defScope d.st) (defBody d.st)
structure DefAt (K : PySem.W.Frag) (mg : Str → Option Value) (d : DefI) (a : Addr) (fd : FuncData) : Prop where
  F : Fun K d.x d.qual d.st a fd
  mga : mg d.x = some (.ref a)
  bd : Binds K fd d.ps []
def DefsAt (K : PySem.W.Frag) (mg : Str → Option Value) : List DefI → Prop
  | [] => True
  | d :: r => (∃ a fd, DefAt K mg d a fd) ∧ DefsAt K mg r
theorem DefsAt.get {K : PySem.W.Frag} {mg : Str → Option Value} : ∀ {D : List DefI} (h : DefsAt K mg D) {i : Nat} {d : DefI}, D[i]? = some d → ∃ a fd, DefAt K mg d a fd
  | d :: r, h, 0, _, e => by cases e; exact h.1
  | d :: r, h, i + 1, _, e => DefsAt.get (D := r) h.2 (by simpa using e)
theorem AV_entry {n : Nat} {ws : List W} {Z : Addr → Prop} {σ : St} {a : Addr} (h : AV Z (entryE n ws) σ a) : Z a := by
  rcases h with h | ⟨i, us, h, _⟩
  · exact h
  · exfalso
    unfold entryE at h
    by_cases hi : i < (ws.map fun w => some (Sl.val w)).length
    · rw [List.getElem?_append_left hi, List.getElem?_map] at h
      cases e : ws[i]? with
      | none => rw [e] at h; cases h
      | some w => rw [e] at h; cases h
    · rw [List.getElem?_append_right (by omega)] at h
      have := List.mem_of_getElem? h
      simp at this
theorem OE_entry {n : Nat} {ws : List W} {σ : St} {a : Addr} : ¬ OE (entryE n ws) σ a := fun h => AV_entry (Z := fun _ => False) (.inr h)
theorem entry_ok {K : PySem.W.Frag} {φ : List Addr} {A : Addr → Prop} {H : Hp} {S : List SO} {ws : List W} {vs : List V} {N : List Str} (hS : RelS K φ A H S) (hz : ∀ a, A a → ∃ o, H a = some o) (hR : Reps K φ A H ws vs) (hl : vs.length ≤ N.length) :
    S0 K ⟨φ, A, fun a => H a = none, H, fun _ h => h⟩ φ ⟨entryE N.length ws, S⟩ (L2.start N vs) H := by
  have lw : vs.length = ws.length := hR.length
  refine ⟨⟨hS.anti fun a z => AV_entry z, ?_, fun i s e => ?_, fun i j us us' a e1 _ e2 _ => (OE_entry (n := N.length) (ws := ws) (σ := L2.start N vs) ⟨i, us, e1, e2⟩).elim, fun a z => (OE_entry z).elim, hz⟩, .refl, fun a z => (OE_entry z).elim⟩
  · show (entryE N.length ws).length = (L2.start N vs).length
    unfold entryE L2.start
    simp [lw]
  · show ∃ v, (L2.start N vs)[i]? = some v ∧ _
    have e : (entryE N.length ws)[i]? = some (some s) := e
    unfold entryE at e
    by_cases hi : i < (ws.map fun w => some (Sl.val w)).length
    · rw [List.getElem?_append_left hi, List.getElem?_map] at e
      cases e' : ws[i]? with
      | none => rw [e'] at e; cases e
      | some w =>
        rw [e'] at e
        cases e
        have hi' : i < vs.length := by rw [lw]; simpa using hi
        refine ⟨some vs[i], ?_, vs[i], rfl, ?_⟩
        · unfold L2.start
          rw [List.getElem?_append_left (by simpa using hi'), List.getElem?_map, List.getElem?_eq_getElem hi']; rfl
        · obtain ⟨v, e2, r⟩ := hR.get e'
          rw [List.getElem?_eq_getElem hi'] at e2
          cases e2
          exact r.anti fun a z => AV_entry z
    · rw [List.getElem?_append_right (by omega)] at e
      have := List.mem_of_getElem? e
      simp at this
theorem ext_in {φ φ' : List Addr} {H H' : Hp} (e : Ext φ (fun a => H a = none) H φ' H') : Ext φ (fun _ => False) H φ' H' :=
  ⟨e.pre, e.new, e.dom, e.tup, fun a o h n _ => e.frm a o h n fun z => by rw [h] at z; cases z⟩
theorem fin_ok {K : PySem.W.Frag} {ce : Nat → Option Addr} {φ : List Addr} {A : Addr → Prop} {H : Hp} {Q : VK} {E : XK} {r : RS}
    (h : match RC.fin r with
      | .ok r S' => ∀ φ' H' v, Ext φ (fun _ => False) H φ' H' → RRepS K φ' A H H' S' r v → Q v H'
      | .exn c fs S' => ∀ φ' H' cls d, Ext φ (fun _ => False) H φ' H' → RelS K φ' A H' S' → ExnR K ce φ' A H' c fs cls d → E cls d H'
      | .bad => False) : OutS K ce (fun cls d _ H => E cls d H) ⟨φ, A, fun a => H a = none, H, fun _ h => h⟩ r { nx := fun _ H' => Q .non H', rt := Q } := by
  cases r with
  | bad => exact h
  | brk st => exact h.elim
  | cnt st => exact h.elim
  | nx st =>
    intro φ' σ' H' s
    exact h φ' H' .non (ext_in s.ext) ⟨s.rel.sto.anti fun a z => .inl z, rep_non.mpr rfl⟩
  | ret r S =>
    intro φ' H' v rr
    refine h φ' H' v (ext_in rr.1) ?_
    cases r with
    | v w => exact rr.2
    | f ws =>
      obtain ⟨p, vs, e, hb, q⟩ := rr.2
      exact ⟨p, vs, e, hb, q⟩
  | exn c fs st =>
    intro φ' σ' H' cls d s x
    refine h φ' H' cls d (ext_in s.ext) (s.rel.sto.anti fun a z => .inl z) ⟨x.1, fun f w hf => ?_⟩
    obtain ⟨dd, xs, v, q1, q2, q3, q4, q5, q6⟩ := x.2 f w hf
    exact ⟨dd, xs, v, q1, q2, q3, fun z => q4 (.inl z), q5, q6.anti fun a z => .inl z⟩
section
variable {P : Program} {w : World} {K : PySem.W.Frag} {mg : Str → Option Value} {base : Heap}
theorem fns_ok {D : List DefI} {ce : Nat → Option Addr} (hD : DefsAt K mg D) (chk : D.all (okDef (fnNs D)) = true) (bn : ∀ b ∈ bNames, mg b = none) :
    ∀ (k : Nat) (f : Nat) (d : DefI) (a : Addr) (fd : FuncData), D[f]? = some d → DefAt K mg d a fd → FnOk P w K mg base (L2.CX P w) (k + 1) a fd d.ps (spC K ce (callN (D.map (·.fn)) k) f d.ps.length)
  | 0, f, d, a, fd, e, A => ⟨fun vs H Q E h => h.1, fun A outer s H args us vs Q E hr he hb hv hs => by
      obtain ⟨_, φ, A, S, ws, _, _, _, q⟩ := hs
      exact q.elim⟩
  | k + 1, f, d, a, fd, e, A => by
    have hd := List.all_eq_true.mp chk d (List.mem_of_getElem? e)
    unfold okDef at hd
    simp only [Bool.and_eq_true, decide_eq_true_eq] at hd
    obtain ⟨⟨⟨h1, h2⟩, h3⟩, h4⟩ := hd
    have S := C8.fnScope_by h1
    refine A.F.okX S (fun vs H Q E h => h.1) fun cdv Ar outer s H vs Q E hr hsp => ?_
    obtain ⟨hl, φ, Az, S', ws, rS, rz, rR, q⟩ := hsp
    let X : Cx := cxOf (L2.CX P w) P w K mg base d.N d.qual (defScope d.st) a cdv Ar outer s H E
    have kx : Kx ce (callN (D.map (·.fn)) k) (fnNs D) d.N X (defScope d.st) := {
      hN := rfl
      nd := S.nd
      calm := rfl
      hu := Nat.lt_of_le_of_lt (Nat.le_trans (Nat.add_le_add_left (by omega) _) (Nat.le_of_eq (Nat.add_assoc _ (16 * (k + 1)) 200).symm)) hr.un
      sv := fun x h => vis_of h
      sl := fun x h => locl_of h
      sg := fun x h => glb_of h
      sf := fun x h => h
      fnl := fun x h => .inl rfl
      bn := bn
      fns := fun g x n hg => by
        unfold fnNs at hg
        rw [List.getElem?_map] at hg
        cases eg : D[g]? with
        | none => rw [eg] at hg; cases hg
        | some d' =>
          rw [eg] at hg
          cases hg
          obtain ⟨b, fd', A'⟩ := hD.get eg
          exact ⟨b, fd', d'.ps, k + 1, hr, A'.mga, A'.F.kp, A'.bd, rfl, fns_ok hD chk bn k g d' b fd' eg A'⟩ }
    have ks : Ks ce (callN (D.map (·.fn)) k) (fnNs D) d.N X (defScope d.st) (fun cls d _ H => E cls d H) := {
      k := kx
      esc := rfl
      kind := S.kind
      tk := takes_of rfl rfl rfl rfl
      pas := passes_of rfl
      fnx := fun x h => .inl rfl }
    have hb := sSs d.fn.body X (defScope d.st) (fun cls d _ H => E cls d H) (defBody d.st) ks h4
    refine ⟨_, hb, ⟨φ, Az, fun a => H a = none, H, fun _ h => h⟩, φ, ⟨entryE d.N.length ws, S'⟩, entry_ok rS rz rR ?_, fin_ok ?_⟩
    · have := congrArg List.length S.pre
      rw [List.length_take] at this
      omega
    · have e2 : (D.map (·.fn))[f]? = some d.fn := by rw [List.getElem?_map, e]; rfl
      have e3 : (ws.length == d.fn.np) = true := by
        have := rR.length
        rw [h3, beq_iff_eq]
        omega
      unfold callN at q
      rw [e2] at q
      simp only [e3, if_true, h2] at q
      exact q
/-- what the top has written -/
theorem def_mk {d : DefI} {h : Heap} {f : Addr} {oc : Value} {od an : Option Addr} {osl : Array (Option Value)} {kV doc pm cdv ct : Value} (X : K.In h) (G : h.Ns mainGlobals mg) (a : PySem.W.nsIn K mainGlobals d.x = some (some (.ref f)))
    (l : K.lookup f = some ⟨oc, od, .func (PySem.W.fnOf d.x d.qual (defArgs d.st) (defBody d.st) (defScope d.st) .none kV doc pm an cdv ct), osl⟩) (c : PySem.W.codeIn K cdv d.qual = true) (k : PySem.W.keepIn K (.ref f) = true)
    (hb : ∀ us : List Value, us.length = d.ps.length → bindArgs (PySem.W.fnOf d.x d.qual (defArgs d.st) (defBody d.st) (defScope d.st) .none kV doc pm an cdv ct) ⟨us, []⟩ = pure (d.ps.zip us)) : ∃ a fd, DefAt K mg d a fd :=
  ⟨f, _, fun_mk l c k, PySem.W.mg_of X G a, .all hb⟩
end
/-- a law's end -/
theorem law_end {l : PySem.W.OpenLaw} {n k li : Nat} {q : Program} {loose : List Str} {XP : (Str → Option Value) → Heap → Prop} {YP : World → Heap → Prop} {d : DefRec} {K : Params → PySem.W.Frag} {D : List DefI} {dl : DefI} {x : Str}
    (hn : l.most = some n) (hn2 : n ≤ sizeLine) (hdf : d.params.defaults = []) (hk : k < 220) (hi : D[li]? = some dl) (hp : dl.ps = [x]) (hdx : dl.x = d.name)
    (chk : D.all (okDef (fnNs D)) = true)
    (hY : ∀ (w : World) (h : Heap), YP w h → (K w.params).In h)
    (F : ∀ (w : World) (mg : Str → Option Value) (h : Heap), (K w.params).In h → h.Ns mainGlobals mg → DefsAt (K w.params) mg D ∧ (∀ b ∈ bNames, mg b = none))
    (hB : ∀ (K : PySem.W.Frag) (a : Addr) (fd : FuncData), Fun K dl.x dl.qual dl.st a fd → ∀ (s : Shared) (u : Value), BindsTo s fd ⟨[u], []⟩ [(x, u)])
    (hlaw : ∀ ns : List Int, ns.length ≤ n → ∃ S, callN (D.map (·.fn)) k li [.scr ns] [] = .ok (.v (.bl true)) S) :
    PySem.W.WalkO q loose XP YP l.row.toRowW d [] (fun f vs => PySem.call f vs) := by
  refine L2.walk_of (n := n) (k := k + 1) (x := x) (CX := fun w => L2.CX l.prog w) (sp := fun w => spC (K w.params) (fun _ => none) (callN (D.map (·.fn)) k) li 1) hn hn2 hdf ⟨rfl, ?_, ?_⟩ hY ?_ ?_ ?_
  · show 1 + claimMargin + 3 * (k + 1) + 5 < recursionLimit
    have : recursionLimit = 1000 := rfl
    have : claimMargin ≤ 300 := by decide +kernel
    omega
  · show 4 + 16 * (k + 1) + 200 < cLine
    have : (5000 : Nat) ≤ cLine := by decide
    omega
  · intro w mg fa h hK hG hm
    obtain ⟨hD, bn⟩ := F w mg h hK hG
    obtain ⟨a, fd, A⟩ := hD.get hi
    have e : a = fa := by
      have := A.mga
      rw [hdx, hm] at this
      cases this; rfl
    subst e
    refine ⟨fd, hB _ _ _ A.F, fun base hb hbG => ?_⟩
    have := fns_ok (P := l.prog) (w := w) (base := base) (ce := fun _ => none) hD chk bn k li dl a fd hi A
    rw [hp] at this
    exact this
  · intro w H a ns hl hO hS
    refine ⟨rfl, [], fun _ => False, [], [.scr ns], ⟨rfl, List.nodup_nil, fun a m => by simp at m, fun n a so e => by simp at e⟩, fun _ z => z.elim, .cons (rep_scr.mpr ⟨a, rfl, ?_⟩) .nil, ?_⟩
    · rcases hS with (h | ⟨o, h⟩) | h
      · rcases hO a with q | ⟨o, xs, q⟩
        · rw [h] at q; cases q
        · rw [h] at q; cases q
      · exact .inl ⟨o, _, h, by simp, fun z => z, rfl⟩
      · exact .inr h
    · obtain ⟨S, e⟩ := hlaw ns hl
      rw [e]
      intro φ' H' v _ rr
      exact rep_bl.mp rr.2
  · intro w H s e s' z
    obtain ⟨_, _, _, _, _, _, _, _, _, _, _, _, z⟩ := z
    exact z
end LL

set_option Elab.async false
set_option linter.all false
set_option maxRecDepth 100000
set_option maxHeartbeats 4000000
/-! LLs: lemmas for equations in the small language. -/
namespace LL
open PySem L2
theorem callN_eq {T : List FnI} {k f : Nat} {fn : FnI} {ws : List W} {S : List SO} (h : T[f]? = some fn) (hl : (ws.length == fn.np) = true) : callN T (k + 1) f ws S = RC.fin (evSs (callN T k) fn.body ⟨entryE fn.ns ws, S⟩) := by
  show (match T[f]? with
    | none => RC.bad
    | some fn => if ws.length == fn.np then RC.fin (evSs (callN T k) fn.body ⟨entryE fn.ns ws, S⟩) else .bad) = _
  rw [h]
  simp only [hl, if_true]
theorem forL_ok {step : W → ST → RS} {I : Nat → ST → Prop} : ∀ {xs : List W} {st : ST}, (∀ i x st, xs[i]? = some x → I i st → ∃ st', step x st = .nx st' ∧ I (i + 1) st') → I 0 st → ∃ st', forL step xs st = .nx st' ∧ I xs.length st'
  | [], st, _, h0 => ⟨st, rfl, h0⟩
  | x :: xs, st, h, h0 => by
    obtain ⟨st1, e1, h1⟩ := h 0 x st rfl h0
    obtain ⟨st2, e2, h2⟩ := forL_ok (I := fun i => I (i + 1)) (xs := xs) (fun i y s e => h (i + 1) y s (by simpa using e)) h1
    exact ⟨st2, by rw [forL, e1]; exact e2, h2⟩
theorem whileL_ok {c : ST → R Bool} {b : ST → RS} {I : Nat → ST → Prop} {Q : ST → Prop} (h : ∀ n st, I n st → (∃ st', c st = .ok false st' ∧ Q st') ∨ ∃ st1 st2 m, c st = .ok true st1 ∧ b st1 = .nx st2 ∧ m < n ∧ I m st2) :
    ∀ (fuel n : Nat) (st : ST), I n st → n < fuel → ∃ st', whileL c b fuel st = .nx st' ∧ Q st'
  | 0, n, st, _, hn => absurd hn (Nat.not_lt_zero _)
  | fuel + 1, n, st, hi, hn => by
    rcases h n st hi with ⟨st', e, q⟩ | ⟨st1, st2, m, e1, e2, hm, hi2⟩
    · exact ⟨st', by simp [whileL, e, RS.of], q⟩
    · obtain ⟨st', e, q⟩ := whileL_ok h fuel m st2 hi2 (by omega)
      exact ⟨st', by simp [whileL, e1, RS.of, e2, e], q⟩
theorem set_set_eq {α : Type} : ∀ (l : List α) (i : Nat) (a b : α), (l.set i a).set i b = l.set i b
  | [], _, _, _ => rfl
  | _ :: _, 0, _, _ => rfl
  | x :: l, i + 1, a, b => by simp
section
variable {C : CT}
/-- one name, the block leaves the frame alone -/
theorem comp_nm {β : Type} {f : β → W} {all : List β} {elt : IE} {i : Nat} {src : SI} {cond : IE} {has : Bool} {st st0 : ST} {g : β → Option W} (hs : evI C src st = .ok (all.map f) st0) (hi : i < st0.env.length)
    (h : ∀ x ∈ all, (if has then ((evB C cond).t ⟨st0.env.set i (some (.val (f x))), st0.sto⟩).bind (fun b st => if b then ((evB C elt).v st).bind (fun r st => .ok (some r.w) st) else .ok none st)
      else ((evB C elt).v ⟨st0.env.set i (some (.val (f x))), st0.sto⟩).bind (fun r st => .ok (some r.w) st)) = .ok (g x) ⟨st0.env.set i (some (.val (f x))), st0.sto⟩) :
    (evB C (.comp elt (.nm i) src cond has)).v st = .ok (.f (all.filterMap g)) ⟨st0.env.set i (keepV st0.env[i]?), st0.sto⟩ := by
  have key : ∀ (ys : List β), (∀ y ∈ ys, y ∈ all) → ∀ o, ∃ o', compL (cStep (evB C cond).t (evB C elt).v (.nm i) has) (ys.map f) ⟨st0.env.set i o, st0.sto⟩ = .ok (ys.filterMap g) ⟨st0.env.set i o', st0.sto⟩ := by
    intro ys
    induction ys with
    | nil => exact fun _ o => ⟨o, rfl⟩
    | cons y ys ih =>
      intro hy o
      obtain ⟨o', e⟩ := ih (fun z hz => hy z (List.mem_cons_of_mem _ hz)) (some (.val (f y)))
      have hstep : cStep (evB C cond).t (evB C elt).v (.nm i) has (f y) ⟨st0.env.set i o, st0.sto⟩ = .ok (g y) ⟨st0.env.set i (some (.val (f y))), st0.sto⟩ := by
        have q := h y (hy y List.mem_cons_self)
        unfold cStep
        simp only [TgI.vars, wipeE, setT, set_set_eq]
        exact q
      refine ⟨o', ?_⟩
      rw [List.map_cons]
      unfold compL
      rw [hstep]
      simp only [R.bind, e]
      cases hg : g y <;> simp [hg]
  have e0 : (⟨st0.env, st0.sto⟩ : ST) = ⟨st0.env.set i st0.env[i], st0.sto⟩ := by rw [List.set_getElem_self]
  obtain ⟨o', e⟩ := key all (fun y hy => hy) st0.env[i]
  rw [← e0] at e
  simp only [evB, EB.of, hs, R.bind]
  rw [show st0 = ⟨st0.env, st0.sto⟩ from rfl, e]
  simp only [TgI.vars, restE, set_set_eq]
end
end LL

/-! Mrg: the merge of lists, on plain lists. -/
set_option linter.all false
namespace Mrg
variable {α : Type} [DecidableEq α]
/-- x stands behind the head of a row -/
def blk (rest : List (List α)) (x : α) : Bool := rest.any fun r => decide (x ∈ r.tail)
/-- heads that no row blocks -/
def free (rest all : List (List α)) : List α := all.filterMap fun r => match r with
  | x :: _ => if blk rest x then none else some x
  | [] => none
def ne : List α → Bool
  | [] => false
  | _ => true
theorem ne_cons (x : α) (t : List α) : ne (x :: t) = true := rfl
/-- x taken away from the heads -/
def drp (x : α) : List α → List α
  | y :: t => if y = x then t else y :: t
  | [] => []
theorem drp_cons (x y : α) (t : List α) : drp x (y :: t) = if y = x then t else y :: t := rfl
def adv (x : α) (rest : List (List α)) : List (List α) := (rest.map (drp x)).filter ne
/-- the rows are all short of the end; what comes out -/
inductive Go : List (List α) → List α → Prop where
  | nil : Go [] []
  | cons {rest x xs out} (h : free rest rest = x :: xs) (k : Go (adv x rest) out) : Go rest (x :: out)
theorem Go.inv {rest : List (List α)} {x : α} {out : List α} (h : Go rest (x :: out)) : ∃ xs, free rest rest = x :: xs ∧ Go (adv x rest) out := by
  cases h with
  | cons h k => exact ⟨_, h, k⟩
theorem drp_sub (x : α) : ∀ r : List α, (drp x r).Sublist r
  | [] => .slnil
  | y :: t => by
    rw [drp_cons]
    split
    · exact List.sublist_cons_self y t
    · exact .refl _
theorem mem_adv {x : α} {rest : List (List α)} {r : List α} : r ∈ adv x rest ↔ r ≠ [] ∧ ∃ r0 ∈ rest, drp x r0 = r := by
  unfold adv
  rw [List.mem_filter, List.mem_map]
  cases r <;> simp [ne]
theorem free_mem {rest all : List (List α)} {x : α} : x ∈ free rest all ↔ ∃ t, (x :: t) ∈ all ∧ blk rest x = false := by
  unfold free
  rw [List.mem_filterMap]
  constructor
  · rintro ⟨r, hr, h⟩
    cases r with
    | nil => cases h
    | cons y t =>
      simp only at h
      split at h
      · cases h
      · rename_i hb
        cases h
        exact ⟨t, hr, by simpa using hb⟩
  · rintro ⟨t, ht, hb⟩
    exact ⟨_, ht, by simp [hb]⟩
theorem blk_iff {rest : List (List α)} {x : α} : blk rest x = true ↔ ∃ r ∈ rest, x ∈ r.tail := by
  unfold blk; simp
/-- rows in one order -/
def InOrd (ord : List α) (rest : List (List α)) : Prop := ∀ r ∈ rest, r ≠ [] ∧ r.Sublist ord
theorem adv_ord {ord : List α} {rest : List (List α)} {x : α} (h : InOrd ord rest) : InOrd ord (adv x rest) := by
  intro r hr
  obtain ⟨h1, r0, h2, rfl⟩ := mem_adv.mp hr
  exact ⟨h1, (drp_sub x r0).trans (h r0 h2).2⟩
/-- a row that begins earliest -/
theorem first_free : ∀ {ord : List α} {rest : List (List α)}, ord.Nodup → InOrd ord rest → rest ≠ [] → free rest rest ≠ []
  | [], rest, _, h, hne => by
    cases rest with
    | nil => exact (hne rfl).elim
    | cons r rs =>
      have := h r List.mem_cons_self
      exact (this.1 (List.sublist_nil.mp this.2)).elim
  | o :: ord, rest, nd, h, hne => by
    by_cases c : ∃ t, (o :: t) ∈ rest
    · obtain ⟨t, ht⟩ := c
      have : o ∈ free rest rest := free_mem.mpr ⟨t, ht, by
        cases hb : blk rest o with
        | false => rfl
        | true =>
          obtain ⟨r, hr, hm⟩ := blk_iff.mp hb
          cases r with
          | nil => cases hm
          | cons y t2 =>
            exfalso
            have hs := (h _ hr).2
            have nd2 := List.nodup_cons.mp nd
            cases hs with
            | cons _ hs => exact nd2.1 (hs.subset (List.mem_cons_of_mem _ hm))
            | cons_cons _ hs => exact nd2.1 (hs.subset hm)⟩
      exact List.ne_nil_of_mem this
    · refine first_free (ord := ord) (List.nodup_cons.mp nd).2 (fun r hr => ⟨(h r hr).1, ?_⟩) hne
      have hs := (h r hr).2
      cases hs with
      | cons _ hs => exact hs
      | cons_cons _ hs => exact (c ⟨_, hr⟩).elim
def tot (rest : List (List α)) : Nat := (rest.map List.length).sum
theorem drp_len (x : α) (r : List α) : (drp x r).length ≤ r.length := (drp_sub x r).length_le
theorem tot_filter (l : List (List α)) : tot (l.filter ne) = tot l := by
  induction l with
  | nil => rfl
  | cons r l ih =>
    unfold tot at ih ⊢
    cases r with
    | nil => simpa [ne] using ih
    | cons y t => simp only [List.filter_cons, ne, if_true, List.map_cons, List.sum_cons, ih]
theorem tot_map_le (x : α) (l : List (List α)) : tot (l.map (drp x)) ≤ tot l := by
  induction l with
  | nil => exact Nat.le_refl _
  | cons r l ih =>
    unfold tot at ih ⊢
    have := drp_len x r
    simp only [List.map_cons, List.sum_cons]
    omega
theorem tot_lt {x : α} {t : List α} : ∀ {rest : List (List α)}, (x :: t) ∈ rest → tot (rest.map (drp x)) < tot rest
  | r :: rest, h => by
    rcases List.mem_cons.mp h with e | h
    · have h1 := tot_map_le x rest
      subst e
      simp only [tot, List.map_cons, List.sum_cons, drp, if_true, List.length_cons] at h1 ⊢
      omega
    · have h1 := tot_lt h
      have h2 := drp_len x r
      simp only [tot, List.map_cons, List.sum_cons] at h1 ⊢
      omega
theorem adv_lt {rest : List (List α)} {x : α} {xs : List α} (h : free rest rest = x :: xs) : tot (adv x rest) < tot rest := by
  obtain ⟨t, ht, _⟩ := free_mem.mp (show x ∈ free rest rest by rw [h]; exact List.mem_cons_self)
  unfold adv
  rw [tot_filter]
  exact tot_lt ht
/-- a hidden order lets it go through -/
theorem go_ord {ord : List α} (nd : ord.Nodup) : ∀ (n : Nat) (rest : List (List α)), tot rest ≤ n → InOrd ord rest → ∃ out, Go rest out ∧ out.length ≤ n
  | n, [], _, _ => ⟨[], .nil, Nat.zero_le _⟩
  | n, r :: rs, hn, h => by
    have hf := first_free nd h (by simp)
    cases e : free (r :: rs) (r :: rs) with
    | nil => exact (hf e).elim
    | cons x xs =>
      have hl := adv_lt e
      cases n with
      | zero => omega
      | succ n =>
        obtain ⟨out, g, hg⟩ := go_ord nd n (adv x (r :: rs)) (by omega) (adv_ord h)
        exact ⟨x :: out, .cons e g, by simpa using hg⟩
theorem Go.det {rest : List (List α)} {o1 o2 : List α} (h1 : Go rest o1) (h2 : Go rest o2) : o1 = o2 := by
  induction h1 generalizing o2 with
  | nil => cases h2 with
    | nil => rfl
    | cons h _ => simp [free] at h
  | cons h k ih =>
    cases h2 with
    | nil => simp [free] at h
    | cons h' k' =>
      rw [h] at h'
      cases h'
      rw [ih k']
/-- x is gone after its turn -/
theorem adv_gone {rest : List (List α)} {x : α} (hn : ∀ r ∈ rest, r.Nodup) (hb : blk rest x = false) : ∀ r ∈ adv x rest, x ∉ r := by
  intro r hr hx
  obtain ⟨_, r0, h0, rfl⟩ := mem_adv.mp hr
  have nb : x ∉ r0.tail := fun z => by
    have := blk_iff.mpr ⟨r0, h0, z⟩
    rw [hb] at this; cases this
  cases r0 with
  | nil => cases hx
  | cons y t =>
    rw [drp_cons] at hx
    split at hx
    · exact nb hx
    · rename_i hy
      rcases List.mem_cons.mp hx with e | e
      · exact hy e.symm
      · exact nb e
theorem adv_keep {rest : List (List α)} {x y : α} (hy : y ≠ x) : (∃ r ∈ adv x rest, y ∈ r) ↔ ∃ r ∈ rest, y ∈ r := by
  constructor
  · rintro ⟨r, hr, hm⟩
    obtain ⟨_, r0, h0, rfl⟩ := mem_adv.mp hr
    exact ⟨r0, h0, (drp_sub x r0).subset hm⟩
  · rintro ⟨r, hr, hm⟩
    have hm' : y ∈ drp x r := by
      cases r with
      | nil => cases hm
      | cons z t =>
        rw [drp_cons]
        split
        · rename_i e
          rcases List.mem_cons.mp hm with q | q
          · exact (hy (q.trans e)).elim
          · exact q
        · exact hm
    exact ⟨drp x r, mem_adv.mpr ⟨List.ne_nil_of_mem hm', r, hr, rfl⟩, hm'⟩
theorem go_mem {rest : List (List α)} {out : List α} (g : Go rest out) : (∀ r ∈ rest, r.Nodup) → out.Nodup ∧ ∀ y, y ∈ out ↔ ∃ r ∈ rest, y ∈ r := by
  induction g with
  | nil => exact fun _ => ⟨List.nodup_nil, by simp⟩
  | @cons rest x xs out h k ih =>
    intro hn
    obtain ⟨t, ht, hb⟩ := free_mem.mp (show x ∈ free rest rest by rw [h]; exact List.mem_cons_self)
    obtain ⟨i1, i2⟩ := ih fun r hr => by
      obtain ⟨_, r0, h0, rfl⟩ := mem_adv.mp hr
      exact (hn r0 h0).sublist (drp_sub x r0)
    have gone := adv_gone hn hb
    refine ⟨List.nodup_cons.mpr ⟨fun z => ?_, i1⟩, fun y => ?_⟩
    · obtain ⟨r, hr, hm⟩ := (i2 x).mp z
      exact gone r hr hm
    · by_cases e : y = x
      · subst e
        exact ⟨fun _ => ⟨_, ht, List.mem_cons_self⟩, fun _ => List.mem_cons_self⟩
      · rw [List.mem_cons, i2, adv_keep e]
        simp [e]
/-- rows that stand there twice change nothing -/
theorem blk_more {rest ex : List (List α)} (h : ∀ r ∈ ex, r ∈ rest) (x : α) : blk (rest ++ ex) x = blk rest x := by
  rw [Bool.eq_iff_iff, blk_iff, blk_iff]
  constructor
  · rintro ⟨r, hr, hm⟩
    rcases List.mem_append.mp hr with q | q
    · exact ⟨r, q, hm⟩
    · exact ⟨r, h r q, hm⟩
  · rintro ⟨r, hr, hm⟩
    exact ⟨r, List.mem_append_left _ hr, hm⟩
theorem free_cong {r1 r2 : List (List α)} (h : ∀ x, blk r1 x = blk r2 x) (all : List (List α)) : free r1 all = free r2 all := by
  unfold free
  congr 1
  funext r
  cases r with
  | nil => rfl
  | cons x t => simp only [h x]
theorem go_more {rest : List (List α)} {out : List α} (g : Go rest out) : ∀ {ex : List (List α)}, (∀ r ∈ ex, r ∈ rest) → Go (rest ++ ex) out := by
  induction g with
  | nil =>
    intro ex h
    cases ex with
    | nil => exact .nil
    | cons r _ => exact absurd (h r List.mem_cons_self) (by simp)
  | @cons rest x xs out h k ih =>
    intro ex he
    refine .cons (xs := xs ++ free rest ex) ?_ ?_
    · rw [free_cong (blk_more he)]
      unfold free at h ⊢
      rw [List.filterMap_append, h]; rfl
    · have e : adv x (rest ++ ex) = adv x rest ++ adv x ex := by
        unfold adv
        rw [List.map_append, List.filter_append]
      rw [e]
      refine ih fun r hr => ?_
      obtain ⟨h1, r0, h0, rfl⟩ := mem_adv.mp hr
      exact mem_adv.mpr ⟨h1, r0, he r0 h0, rfl⟩
theorem go_one : ∀ {xs : List α}, xs.Nodup → Go ([xs].filter ne) xs
  | [], _ => .nil
  | x :: t, h => by
    have hx := (List.nodup_cons.mp h).1
    refine .cons (xs := []) ?_ ?_
    · have e : List.filter ne [x :: t] = [x :: t] := rfl
      rw [e]
      simp [free, blk, hx]
    · have : adv x (List.filter ne [x :: t]) = List.filter ne [t] := by
        have e : List.filter ne [x :: t] = [x :: t] := rfl
        rw [e]
        unfold adv
        rw [List.map_cons, List.map_nil, drp_cons, if_pos rfl]
      rw [this]
      exact go_one (List.nodup_cons.mp h).2
end Mrg

set_option Elab.async false
set_option linter.all false
set_option maxRecDepth 100000
set_option maxHeartbeats 4000000
/-! the defs of K01 -/
namespace K01
open PySem L2 LL
def top (i : Nat) : Stmt := PySem.Challenge.pw_livelookup_k01_whole_merge_of_hidden_ord.main.body.getD i (.Pass ⟨0, 0, 0, 0⟩)
/-- blocking_list -/
def b0 : IB := (.cons (.forS (.nm 2) (.seq (.var 0)) (.cons (.ifS (.cmp .inn (.var 1) (.sfrom (.var 2) (.int 1))) (.cons (.ret (.var 2)) .nil) .nil) .nil)) (.cons (.ret .non) .nil))
def d0 : DefI := ⟨"blocking_list", "blocking_list", ["lists", "name"], ["lists", "name", "row"], top 5, ⟨2, 3, b0⟩⟩
/-- merge_for -/
def b1 : IB := (.cons (.par 2 3 (.lst .nil) (.comp (.var 5) (.nm 5) (.seq (.var 1)) (.cmp .ne (.var 5) (.tup .nil)) true)) (.cons (.whl (.cmp .ne (.var 3) (.lst .nil)) (.cons (.asg 4 (.comp (.idx (.var 5) (.int 0)) (.nm 5) (.seq (.var 3)) (.cmp .isN (.call 0 (.cons (.var 3) (.cons (.idx (.var 5) (.int 0)) .nil))) .non) true)) (.cons (.ifS (.cmp .eq (.var 4) (.lst .nil)) (.cons .nvr .nil) .nil) (.cons (.app 2 (.idx (.var 4) (.int 0))) (.cons (.asg 3 (.comp (.ifE (.cmp .eq (.idx (.var 5) (.int 0)) (.idx (.var 4) (.int 0))) (.sfrom (.var 5) (.int 1)) (.var 5)) (.nm 5) (.seq (.var 3)) .non false)) (.cons (.asg 3 (.comp (.var 5) (.nm 5) (.seq (.var 3)) (.cmp .ne (.var 5) (.tup .nil)) true)) .nil)))))) (.cons (.ret (.blt .tuple (.cons (.var 2) .nil))) .nil)))
def d1 : DefI := ⟨"merge_for", "merge_for", ["name", "lists"], ["name", "lists", "found", "rest", "free", "row"], top 7, ⟨2, 6, b1⟩⟩
/-- merge -/
def b2 : IB := (.cons (.forS (.tp [1, 2]) (.enm (.var 0)) (.cons (.ifS (.cmp .lt (.setLen (.var 2)) (.blt .len (.cons (.var 2) .nil))) (.cons .nvr .nil) .nil) .nil)) (.cons (.ret (.call 1 (.cons .non (.cons (.var 0) .nil)))) .nil))
def d2 : DefI := ⟨"merge", "merge", ["lists"], ["lists", "index", "row"], top 8, ⟨1, 3, b2⟩⟩
/-- _law_taken -/
def b3 : IB := (.cons (.ifS (.cmp .gt (.idx (.var 0) (.int 3)) (.int 0)) (.cons (.asg 3 (.bin .mod (.blt .int (.cons (.idx (.var 0) (.int 3)) .nil)) (.var 1))) (.cons (.setI (.var 0) (.int 3) (.bin .fdiv (.idx (.var 0) (.int 3)) (.var 1))) (.cons (.ret (.var 3)) .nil))) .nil) (.cons (.setI (.var 0) (.int 1) (.bin .add (.idx (.var 0) (.int 1)) (.int 1))) (.cons (.ifS (.cmp .gt (.idx (.var 0) (.int 1)) (.blt .len (.cons (.idx (.var 0) (.int 0)) .nil))) (.cons (.setI (.var 0) (.int 2) (.bin .mod (.blt .int (.cons (.bin .add (.bin .mul (.idx (.var 0) (.int 2)) (.int 48271)) (.int 11)) .nil)) (.int 2147483647))) (.cons (.ret (.bin .mod (.blt .int (.cons (.bin .fdiv (.idx (.var 0) (.int 2)) (.int 7)) .nil)) (.var 1))) .nil)) .nil) (.cons (.asg 2 (.idx (.idx (.var 0) (.int 0)) (.bin .sub (.idx (.var 0) (.int 1)) (.int 1)))) (.cons (.setI (.var 0) (.int 2) (.bin .mod (.blt .int (.cons (.bin .add (.bin .add (.bin .mul (.idx (.var 0) (.int 2)) (.int 48271)) (.var 2)) (.int 11)) .nil)) (.int 2147483647))) (.cons (.setI (.var 0) (.int 3) (.ifE (.cmp .ge (.var 2) (.bin .pow (.int 10) (.int 18))) (.bin .fdiv (.var 2) (.var 1)) (.int 0))) (.cons (.ret (.bin .mod (.blt .int (.cons (.var 2) .nil)) (.var 1))) .nil)))))))
def d3 : DefI := ⟨"_law_taken", "_law_taken", ["_law_row", "_law_many"], ["_law_row", "_law_many", "_law_cell", "_law_found"], top 10, ⟨2, 4, b3⟩⟩
/-- _law_pick -/
def b4 : IB := (.cons (.ret (.idx (.var 1) (.call 3 (.cons (.var 0) (.cons (.blt .len (.cons (.var 1) .nil)) .nil))))) .nil)
def d4 : DefI := ⟨"_law_pick", "_law_pick", ["_law_row", "_law_some"], ["_law_row", "_law_some"], top 11, ⟨2, 2, b4⟩⟩
/-- _law_words -/
def b5 : IB := (.cons (.asg 1 (.lst (.cons (.str "a") (.cons (.str "b") (.cons (.str "aa") (.cons (.str "a1") (.cons (.str "a_") (.cons (.str "ab") (.cons (.str "add") (.cons (.str "call") (.cons (.str "next") (.cons (.str "class") (.cons (.str "method") (.cons (.str "constant") (.cons (.str "clock") .nil))))))))))))))) (.cons (.asg 1 (.bin .add (.var 1) (.lst (.cons (.str "rebase") (.cons (.str "k") (.cons (.str "abcdefghijkl") (.cons (.str "abcdefghijkm") (.cons (.str "writable") (.cons (.str "x9_z") (.cons (.str "z") (.cons (.str "name") (.cons (.str "load") .nil)))))))))))) (.cons (.asg 1 (.bin .add (.var 1) (.lst (.cons (.str "computed") (.cons (.str "bind") .nil))))) (.cons (.asg 2 (.lst .nil)) (.cons (.forS (.nm 3) (.rng (.int 12)) (.cons (.app 2 (.pop 1 (.call 3 (.cons (.var 0) (.cons (.blt .len (.cons (.var 1) .nil)) .nil))))) .nil)) (.cons (.ret (.var 2)) .nil))))))
def d5 : DefI := ⟨"_law_words", "_law_words", ["_law_row"], ["_law_row", "_law_words_here", "_law_found", "_law_k"], top 12, ⟨1, 4, b5⟩⟩
/-- _law_is_free -/
def b6 : IB := (.cons (.forS (.nm 2) (.seq (.var 0)) (.cons (.ifS (.cmp .inn (.var 1) (.sfrom (.var 2) (.int 1))) (.cons (.ret (.bl false)) .nil) .nil) .nil)) (.cons (.ret (.bl true)) .nil))
def d6 : DefI := ⟨"_law_is_free", "_law_is_free", ["_law_lists", "_law_name"], ["_law_lists", "_law_name", "_law_one"], top 13, ⟨2, 3, b6⟩⟩
/-- _law_part_of -/
def b7 : IB := (.cons (.asg 2 (.tup .nil)) (.cons (.forS (.nm 3) (.seq (.var 1)) (.cons (.ifS (.cmp .eq (.call 3 (.cons (.var 0) (.cons (.int 3) .nil))) (.int 0)) (.cons (.asg 2 (.bin .add (.var 2) (.tup (.cons (.var 3) .nil)))) .nil) .nil) .nil)) (.cons (.ret (.var 2)) .nil)))
def d7 : DefI := ⟨"_law_part_of", "_law_part_of", ["_law_row", "_law_order"], ["_law_row", "_law_order", "_law_found", "_law_name"], top 14, ⟨2, 4, b7⟩⟩
/-- law -/
def b8 : IB := (.cons (.asgR 1 (.lst (.cons (.var 0) (.cons (.int 0) (.cons (.int 0) (.cons (.int 0) .nil)))))) (.cons (.asg 2 (.upto (.call 5 (.cons (.var 1) .nil)) (.call 3 (.cons (.var 1) (.cons (.int 13) .nil))))) (.cons (.asg 3 (.tup .nil)) (.cons (.forS (.nm 4) (.rng (.call 3 (.cons (.var 1) (.cons (.int 10) .nil)))) (.cons (.asg 3 (.bin .add (.var 3) (.tup (.cons (.call 4 (.cons (.var 1) (.cons (.lst (.cons (.call 7 (.cons (.var 1) (.cons (.var 2) .nil))) (.cons (.call 7 (.cons (.var 1) (.cons (.var 2) .nil))) (.cons (.tup .nil) .nil)))) .nil))) .nil)))) .nil)) (.cons (.asg 5 (.call 2 (.cons (.var 3) .nil))) (.cons (.asg 6 (.lst .nil)) (.cons (.forS (.nm 7) (.seq (.var 3)) (.cons (.asg 6 (.bin .add (.var 6) (.comp (.var 9) (.nm 9) (.seq (.var 7)) (.cmp .nin (.var 9) (.var 6)) true))) .nil)) (.cons (.ifS (.orE (.notE (.isT (.var 5) .tuple)) (.cmp .ne (.blt .sorted (.cons (.var 5) .nil)) (.blt .sorted (.cons (.var 6) .nil)))) (.cons (.ret (.bl false)) .nil) .nil) (.cons (.asg 8 (.comp (.blt .list (.cons (.var 7) .nil)) (.nm 7) (.seq (.var 3)) .non false)) (.cons (.forS (.nm 9) (.seq (.var 5)) (.cons (.asg 8 (.comp (.var 7) (.nm 7) (.seq (.var 8)) (.cmp .ne (.var 7) (.lst .nil)) true)) (.cons (.asg 10 (.comp (.idx (.var 7) (.int 0)) (.nm 7) (.seq (.var 8)) (.call 6 (.cons (.var 8) (.cons (.idx (.var 7) (.int 0)) .nil))) true)) (.cons (.ifS (.orE (.cmp .eq (.var 10) (.lst .nil)) (.cmp .ne (.idx (.var 10) (.int 0)) (.var 9))) (.cons (.ret (.bl false)) .nil) .nil) (.cons (.asg 8 (.comp (.ifE (.cmp .eq (.idx (.var 7) (.int 0)) (.var 9)) (.sfrom (.var 7) (.int 1)) (.var 7)) (.nm 7) (.seq (.var 8)) .non false)) .nil))))) (.cons (.ret (.andE (.cmp .eq (.call 2 (.cons (.bin .add (.bin .add (.var 3) (.upto (.var 3) (.int 1))) (.tup (.cons (.tup .nil) .nil))) .nil)) (.var 5)) (.cmp .eq (.call 2 (.cons (.tup (.cons (.var 5) .nil)) .nil)) (.var 5)))) .nil)))))))))))
def d8 : DefI := ⟨"law", "law", ["_law_script"], ["_law_script", "_law_row", "_law_order", "_law_lists", "_law_k", "_law_found", "_law_names", "_law_one", "_law_rest", "_law_name", "_law_free"], top 15, ⟨1, 11, b8⟩⟩
def D : List DefI := [d0, d1, d2, d3, d4, d5, d6, d7, d8]
theorem chk : D.all (okDef (fnNs D)) = true := by decide +kernel
theorem mk {K : PySem.W.Frag} {h : Heap} {mg : Str → Option Value} (X : K.In h) (G : h.Ns mainGlobals mg)
    {f0 : Addr} {oc0 kV0 dc0 pm0 cd0 ct0 : Value} {od0 an0 : Option Addr} {sl0 : Array (Option Value)}
    {f1 : Addr} {oc1 kV1 dc1 pm1 cd1 ct1 : Value} {od1 an1 : Option Addr} {sl1 : Array (Option Value)}
    {f2 : Addr} {oc2 kV2 dc2 pm2 cd2 ct2 : Value} {od2 an2 : Option Addr} {sl2 : Array (Option Value)}
    {f3 : Addr} {oc3 kV3 dc3 pm3 cd3 ct3 : Value} {od3 an3 : Option Addr} {sl3 : Array (Option Value)}
    {f4 : Addr} {oc4 kV4 dc4 pm4 cd4 ct4 : Value} {od4 an4 : Option Addr} {sl4 : Array (Option Value)}
    {f5 : Addr} {oc5 kV5 dc5 pm5 cd5 ct5 : Value} {od5 an5 : Option Addr} {sl5 : Array (Option Value)}
    {f6 : Addr} {oc6 kV6 dc6 pm6 cd6 ct6 : Value} {od6 an6 : Option Addr} {sl6 : Array (Option Value)}
    {f7 : Addr} {oc7 kV7 dc7 pm7 cd7 ct7 : Value} {od7 an7 : Option Addr} {sl7 : Array (Option Value)}
    {f8 : Addr} {oc8 kV8 dc8 pm8 cd8 ct8 : Value} {od8 an8 : Option Addr} {sl8 : Array (Option Value)}
    (a0 : PySem.W.nsIn K mainGlobals d0.x = some (some (.ref f0))) (l0 : K.lookup f0 = some ⟨oc0, od0, .func (PySem.W.fnOf d0.x d0.qual (defArgs d0.st) (defBody d0.st) (defScope d0.st) .none kV0 dc0 pm0 an0 cd0 ct0), sl0⟩) (c0 : PySem.W.codeIn K cd0 d0.qual = true) (k0 : PySem.W.keepIn K (.ref f0) = true)
    (a1 : PySem.W.nsIn K mainGlobals d1.x = some (some (.ref f1))) (l1 : K.lookup f1 = some ⟨oc1, od1, .func (PySem.W.fnOf d1.x d1.qual (defArgs d1.st) (defBody d1.st) (defScope d1.st) .none kV1 dc1 pm1 an1 cd1 ct1), sl1⟩) (c1 : PySem.W.codeIn K cd1 d1.qual = true) (k1 : PySem.W.keepIn K (.ref f1) = true)
    (a2 : PySem.W.nsIn K mainGlobals d2.x = some (some (.ref f2))) (l2 : K.lookup f2 = some ⟨oc2, od2, .func (PySem.W.fnOf d2.x d2.qual (defArgs d2.st) (defBody d2.st) (defScope d2.st) .none kV2 dc2 pm2 an2 cd2 ct2), sl2⟩) (c2 : PySem.W.codeIn K cd2 d2.qual = true) (k2 : PySem.W.keepIn K (.ref f2) = true)
    (a3 : PySem.W.nsIn K mainGlobals d3.x = some (some (.ref f3))) (l3 : K.lookup f3 = some ⟨oc3, od3, .func (PySem.W.fnOf d3.x d3.qual (defArgs d3.st) (defBody d3.st) (defScope d3.st) .none kV3 dc3 pm3 an3 cd3 ct3), sl3⟩) (c3 : PySem.W.codeIn K cd3 d3.qual = true) (k3 : PySem.W.keepIn K (.ref f3) = true)
    (a4 : PySem.W.nsIn K mainGlobals d4.x = some (some (.ref f4))) (l4 : K.lookup f4 = some ⟨oc4, od4, .func (PySem.W.fnOf d4.x d4.qual (defArgs d4.st) (defBody d4.st) (defScope d4.st) .none kV4 dc4 pm4 an4 cd4 ct4), sl4⟩) (c4 : PySem.W.codeIn K cd4 d4.qual = true) (k4 : PySem.W.keepIn K (.ref f4) = true)
    (a5 : PySem.W.nsIn K mainGlobals d5.x = some (some (.ref f5))) (l5 : K.lookup f5 = some ⟨oc5, od5, .func (PySem.W.fnOf d5.x d5.qual (defArgs d5.st) (defBody d5.st) (defScope d5.st) .none kV5 dc5 pm5 an5 cd5 ct5), sl5⟩) (c5 : PySem.W.codeIn K cd5 d5.qual = true) (k5 : PySem.W.keepIn K (.ref f5) = true)
    (a6 : PySem.W.nsIn K mainGlobals d6.x = some (some (.ref f6))) (l6 : K.lookup f6 = some ⟨oc6, od6, .func (PySem.W.fnOf d6.x d6.qual (defArgs d6.st) (defBody d6.st) (defScope d6.st) .none kV6 dc6 pm6 an6 cd6 ct6), sl6⟩) (c6 : PySem.W.codeIn K cd6 d6.qual = true) (k6 : PySem.W.keepIn K (.ref f6) = true)
    (a7 : PySem.W.nsIn K mainGlobals d7.x = some (some (.ref f7))) (l7 : K.lookup f7 = some ⟨oc7, od7, .func (PySem.W.fnOf d7.x d7.qual (defArgs d7.st) (defBody d7.st) (defScope d7.st) .none kV7 dc7 pm7 an7 cd7 ct7), sl7⟩) (c7 : PySem.W.codeIn K cd7 d7.qual = true) (k7 : PySem.W.keepIn K (.ref f7) = true)
    (a8 : PySem.W.nsIn K mainGlobals d8.x = some (some (.ref f8))) (l8 : K.lookup f8 = some ⟨oc8, od8, .func (PySem.W.fnOf d8.x d8.qual (defArgs d8.st) (defBody d8.st) (defScope d8.st) .none kV8 dc8 pm8 an8 cd8 ct8), sl8⟩) (c8 : PySem.W.codeIn K cd8 d8.qual = true) (k8 : PySem.W.keepIn K (.ref f8) = true)
    (bn : ∀ b ∈ bNames, PySem.W.nsIn K mainGlobals b = some none) : DefsAt K mg D ∧ ∀ b ∈ bNames, mg b = none := by
  refine ⟨⟨def_mk X G a0 l0 c0 k0 ?_, def_mk X G a1 l1 c1 k1 ?_, def_mk X G a2 l2 c2 k2 ?_, def_mk X G a3 l3 c3 k3 ?_, def_mk X G a4 l4 c4 k4 ?_, def_mk X G a5 l5 c5 k5 ?_, def_mk X G a6 l6 c6 k6 ?_, def_mk X G a7 l7 c7 k7 ?_, def_mk X G a8 l8 c8 k8 ?_, True.intro⟩, fun b hb => PySem.W.mg_none_of X G (bn b hb)⟩
  · exact fun us hl => match us, hl with | [_, _], _ => rfl
  · exact fun us hl => match us, hl with | [_, _], _ => rfl
  · exact fun us hl => match us, hl with | [_], _ => rfl
  · exact fun us hl => match us, hl with | [_, _], _ => rfl
  · exact fun us hl => match us, hl with | [_, _], _ => rfl
  · exact fun us hl => match us, hl with | [_], _ => rfl
  · exact fun us hl => match us, hl with | [_, _], _ => rfl
  · exact fun us hl => match us, hl with | [_, _], _ => rfl
  · exact fun us hl => match us, hl with | [_], _ => rfl
end K01

set_option Elab.async false
set_option linter.all false
set_option maxRecDepth 100000
set_option maxHeartbeats 4000000
namespace K01
open PySem L2 LL
abbrev T : List FnI := D.map (·.fn)
def IsRow (ns : List Int) (S : List SO) : Prop := ∃ p q r : Int, 0 ≤ p ∧ S = [.lst [.scr ns, .int p, .int q, .int r]]
theorem taken_ok {k : Nat} {ns : List Int} {S : List SO} {m : Int} (hS : IsRow ns S) (h0 : 0 < m) (h1 : m < 1073741824) :
    ∃ v S', callN T (k + 1) 3 [.ref 0, .int m] S = .ok (.v (.int v)) S' ∧ IsRow ns S' ∧ 0 ≤ v ∧ v < m := by
  obtain ⟨p, q, r, hp, rfl⟩ := hS
  rw [callN_eq (fn := d3.fn) rfl rfl]
  have vm : ∀ z : Int, 0 ≤ z % m ∧ z % m < m := fun z => ⟨Int.emod_nonneg _ (by omega), Int.emod_lt_of_pos _ h0⟩
  by_cases hr : 0 < r
  · simp [d3, b3, evSs, evS, RS.then, RS.of, evT, ev, evB, EB.of, entryE, bin1, opd, deref, derefV, vw, R.bind, idx2, atI, ixN, cmp2, vB, tst, un1, truth, evO, evA, derefs, blt1, RV.w, op2, slOf, RC.fin, mulOk, h0, h1, hr]
    exact ⟨_, _, ⟨rfl, rfl⟩, ⟨p, q, _, hp, rfl⟩, vm r⟩
  · by_cases hl : (ns.length : Int) < p + 1
    · simp [d3, b3, evSs, evS, RS.then, RS.of, evT, ev, evB, EB.of, entryE, bin1, opd, deref, derefV, vw, R.bind, idx2, atI, ixN, cmp2, vB, tst, un1, truth, evO, evA, derefs, blt1, RV.w, op2, slOf, RC.fin, mulOk, h0, h1, hr, hl]
      exact ⟨_, _, ⟨rfl, rfl⟩, ⟨_, _, _, by omega, rfl⟩, vm _⟩
    · obtain ⟨n, rfl⟩ := Int.eq_ofNat_of_zero_le hp
      have hn : n < ns.length := by omega
      by_cases hc : 1000000000000000000 ≤ ns[n]
      · simp [d3, b3, evSs, evS, RS.then, RS.of, evT, ev, evB, EB.of, entryE, bin1, opd, deref, derefV, vw, R.bind, idx2, atI, ixN, cmp2, vB, tst, un1, truth, evO, evA, derefs, blt1, RV.w, op2, slOf, RC.fin, mulOk, h0, h1, hr, hl, hn, hc]
        exact ⟨_, _, ⟨rfl, rfl⟩, ⟨_, _, _, by omega, rfl⟩, vm _⟩
      · simp [d3, b3, evSs, evS, RS.then, RS.of, evT, ev, evB, EB.of, entryE, bin1, opd, deref, derefV, vw, R.bind, idx2, atI, ixN, cmp2, vB, tst, un1, truth, evO, evA, derefs, blt1, RV.w, op2, slOf, RC.fin, mulOk, h0, h1, hr, hl, hn, hc]
        exact ⟨_, _, ⟨rfl, rfl⟩, ⟨_, _, _, by omega, rfl⟩, vm _⟩
/-! ### words -/
abbrev sW (xs : List Str) : List W := xs.map W.str
theorem atI_nat {α : Type} {l : List α} {v : Int} (h0 : 0 ≤ v) (h1 : v < l.length) : ∃ i : Nat, i < l.length ∧ v = (i : Int) ∧ ixN l.length v = some i := by
  obtain ⟨i, rfl⟩ := Int.eq_ofNat_of_zero_le h0
  have : i < l.length := by omega
  exact ⟨i, this, rfl, by simp [ixN, this]⟩
theorem pick_ok {k : Nat} {ns : List Int} {S : List SO} {ws : List W} (hS : IsRow ns S) (h0 : 0 < ws.length) (h1 : ws.length < 1073741824) :
    ∃ w S', callN T (k + 2) 4 [.ref 0, .lst ws] S = .ok (.v w) S' ∧ IsRow ns S' ∧ w ∈ ws := by
  obtain ⟨v, S', e, hS', v0, v1⟩ := taken_ok (k := k) hS (m := ws.length) (by omega) (by omega)
  obtain ⟨i, hi, rfl, ei⟩ := atI_nat (l := ws) v0 v1
  rw [callN_eq (fn := d4.fn) rfl rfl]
  refine ⟨ws[i], S', ?_, hS', List.getElem_mem hi⟩
  simp [d4, b4, evSs, evS, RS.then, RS.of, evT, ev, evB, EB.of, entryE, bin1, opd, deref, derefV, vw, R.bind, idx2, atI, ixN, cmp2, vB, tst, un1, truth, evO, evA, derefs, blt1, RV.w, op2, slOf, RC.fin, mulOk, e]
  simp [hi]
theorem er_map : ∀ (xs : List Str) (j : Nat), (sW xs).eraseIdx j = sW (xs.eraseIdx j)
  | [], j => by simp
  | x :: xs, 0 => rfl
  | x :: xs, j + 1 => by
    have := er_map xs j
    simp only [sW, List.map_cons, List.eraseIdx_cons_succ] at this ⊢
    rw [this]
theorem er_perm : ∀ (xs : List Str) (j : Nat) (h : j < xs.length), (xs[j] :: xs.eraseIdx j).Perm xs
  | x :: xs, 0, _ => .refl _
  | x :: xs, j + 1, h => by
    have h' : j < xs.length := by simpa using h
    have := er_perm xs j h'
    exact (List.Perm.swap x xs[j] (xs.eraseIdx j)).trans (this.cons x)
def allW : List Str := ["a", "b", "aa", "a1", "a_", "ab", "add", "call", "next", "class", "method", "constant", "clock", "rebase", "k", "abcdefghijkl", "abcdefghijkm", "writable", "x9_z", "z", "name", "load", "computed", "bind"]
theorem allW_nodup : allW.Nodup := by decide +kernel
theorem words_ok {k : Nat} {ns : List Int} {S : List SO} (hS : IsRow ns S) : ∃ xs S', callN T (k + 2) 5 [.ref 0] S = .ok (.f (sW xs)) S' ∧ IsRow ns S' ∧ xs.Nodup ∧ xs.length = 12 := by
  rw [callN_eq (fn := d5.fn) rfl rfl]
  have e0 : ∀ st : ST, st = ⟨[some (.val (.ref 0)), some (.own (sW allW)), some (.own []), none], S⟩ → ∃ st', forL (fStep (callN T (k + 1)) (.nm 3) (.cons (.app 2 (.pop 1 (.call 3 (.cons (.var 0) (.cons (.blt .len (.cons (.var 1) .nil)) .nil))))) .nil)) (rngW 12) st = .nx st' ∧
      ∃ (found here : List Str) (o : Option Sl) (S' : List SO), st' = ⟨[some (.val (.ref 0)), some (.own (sW here)), some (.own (sW found)), o], S'⟩ ∧ IsRow ns S' ∧ (found ++ here).Perm allW ∧ found.length = 12 := by
    rintro _ rfl
    refine Exists.elim (forL_ok (step := fStep (callN T (k + 1)) (.nm 3) (.cons (.app 2 (.pop 1 (.call 3 (.cons (.var 0) (.cons (.blt .len (.cons (.var 1) .nil)) .nil))))) .nil))
      (I := fun i st => i ≤ 12 ∧ ∃ (found here : List Str) (o : Option Sl) (S' : List SO), st = ⟨[some (.val (.ref 0)), some (.own (sW here)), some (.own (sW found)), o], S'⟩ ∧ IsRow ns S' ∧ (found ++ here).Perm allW ∧ found.length = i)
      (xs := rngW 12) (st := ⟨[some (.val (.ref 0)), some (.own (sW allW)), some (.own []), none], S⟩) ?_ ⟨by omega, [], allW, none, S, rfl, hS, .refl _, rfl⟩) ?_
    · rintro i x st hx ⟨hi, found, here, o, S1, rfl, h1, hp, hl⟩
      have hil : i < 12 := by
        have := (List.getElem?_eq_some_iff.mp hx).1
        simpa [rngW] using this
      have hh : here.length = 24 - i := by
        have := hp.length_eq
        rw [List.length_append] at this
        have e : allW.length = 24 := by decide +kernel
        omega
      obtain ⟨v, S', e, hS', v0, v1⟩ := taken_ok (k := k) h1 (m := here.length) (by omega) (by omega)
      obtain ⟨j, hj, rfl, ej⟩ := atI_nat (l := here) v0 v1
      refine ⟨⟨[some (.val (.ref 0)), some (.own (sW (here.eraseIdx j))), some (.own (sW (found ++ [here[j]]))), some (.val x)], S'⟩, ?_, by omega, found ++ [here[j]], here.eraseIdx j, _, S', rfl, hS', ?_, by rw [List.length_append, hl]; rfl⟩
      · have hz : szOk (found.length + 1) = true := by
          unfold szOk; rw [hl]; exact decide_eq_true (Nat.le_trans (show i + 1 ≤ 12 by omega) (by decide))
        simp [fStep, setT, evSs, evS, RS.then, RS.of, evT, ev, evB, EB.of, entryE, bin1, opd, deref, derefV, vw, R.bind, idx2, atI, ixN, cmp2, vB, tst, un1, truth, evO, evA, derefs, blt1, RV.w, op2, slOf, RC.fin, mulOk, e, hj, hz]
        exact er_map here j
      · refine List.Perm.trans ?_ hp
        rw [List.append_assoc]
        refine List.Perm.append_left found ?_
        exact er_perm here j hj
    · rintro st' ⟨e, h⟩
      exact ⟨st', e, h.2⟩
  obtain ⟨st', e, found, here, o, S', rfl, hS', hp, hl⟩ := e0 _ rfl
  refine ⟨found, S', ?_, hS', ?_, hl⟩
  · have hf := forS_eq (C := callN T (k + 1)) (g := .nm 3) (src := .rng (.int 12)) (x := (.cons (.app 2 (.pop 1 (.call 3 (.cons (.var 0) (.cons (.blt .len (.cons (.var 1) .nil)) .nil))))) .nil)) (st := ⟨[some (.val (.ref 0)), some (.own (sW allW)), some (.own []), none], S⟩)
    have hi : evI (callN T (k + 1)) (.rng (.int 12)) ⟨[some (.val (.ref 0)), some (.own (sW allW)), some (.own []), none], S⟩ = .ok (rngW 12) ⟨[some (.val (.ref 0)), some (.own (sW allW)), some (.own []), none], S⟩ := by
      simp [evI, evSs, evS, RS.then, RS.of, evT, ev, evB, EB.of, entryE, bin1, opd, deref, derefV, vw, R.bind, idx2, atI, ixN, cmp2, vB, tst, un1, truth, evO, evA, derefs, blt1, RV.w, op2, slOf, RC.fin, mulOk]
      decide
    rw [hi, RS.of, e] at hf
    have hz : szOk 13 = true := by decide
    have hz2 : szOk 9 = true := by decide
    have hz3 : szOk 22 = true := by decide
    have hz4 : szOk 24 = true := by decide
    have hz5 : szOk 2 = true := by decide
    have hz6 : szOk 0 = true := by decide
    have ea : ∀ r, (evSs (callN T (k + 1)) d5.fn.body ⟨entryE d5.fn.ns [.ref 0], S⟩) = r ↔ (evSs (callN T (k + 1)) (.cons (.forS (.nm 3) (.rng (.int 12)) (.cons (.app 2 (.pop 1 (.call 3 (.cons (.var 0) (.cons (.blt .len (.cons (.var 1) .nil)) .nil))))) .nil)) (.cons (.ret (.var 2)) .nil)) ⟨[some (.val (.ref 0)), some (.own (sW allW)), some (.own []), none], S⟩) = r := fun r => by
      simp only [d5, b5, evSs]
      simp [evSs, evS, RS.then, RS.of, evT, ev, evB, EB.of, entryE, bin1, opd, deref, derefV, vw, R.bind, idx2, atI, ixN, cmp2, vB, tst, un1, truth, evO, evA, derefs, blt1, RV.w, op2, slOf, RC.fin, mulOk, hz, hz2, hz3, hz4, hz5, hz6, allW]
    rw [(ea _).mpr rfl, evSs, hf]
    simp [evSs, evS, RS.then, RS.of, evT, ev, evB, EB.of, entryE, bin1, opd, deref, derefV, vw, R.bind, idx2, atI, ixN, cmp2, vB, tst, un1, truth, evO, evA, derefs, blt1, RV.w, op2, slOf, RC.fin, mulOk]
  · have : (found ++ here).Nodup := hp.nodup_iff.mpr allW_nodup
    exact (List.nodup_append.mp this).1

end K01

set_option Elab.async false
set_option linter.all false
set_option maxRecDepth 100000
set_option maxHeartbeats 4000000
namespace K01
open PySem L2 LL Mrg
/-! ### rows of words -/
abbrev tW (xs : List Str) : W := .tup (sW xs)
abbrev lW (xs : List Str) : W := .lst (sW xs)
theorem okds_s : ∀ (n : Nat) (xs : List Str), okds n (sW xs) = true
  | n, [] => by simp [okds]
  | n, x :: xs => by
    have := okds_s n xs
    simp only [sW, List.map_cons, okds, Bool.and_eq_true] at this ⊢
    exact ⟨by cases n <;> simp [okd], this⟩
theorem okd_t (n : Nat) (xs : List Str) : okd (n + 1) (tW xs) = true := by rw [okd]; exact okds_s n xs
theorem okd_l (n : Nat) (xs : List Str) : okd (n + 1) (lW xs) = true := by rw [okd]; exact okds_s n xs
theorem okds_t : ∀ (n : Nat) (rs : List (List Str)), okds (n + 1) (rs.map tW) = true
  | n, [] => by simp [okds]
  | n, x :: xs => by
    simp only [List.map_cons, okds, Bool.and_eq_true]
    exact ⟨okd_t n x, okds_t n xs⟩
theorem okds_l : ∀ (n : Nat) (rs : List (List Str)), okds (n + 1) (rs.map lW) = true
  | n, [] => by simp [okds]
  | n, x :: xs => by
    simp only [List.map_cons, okds, Bool.and_eq_true]
    exact ⟨okd_l n x, okds_l n xs⟩
theorem weqs_s : ∀ (xs ys : List Str), weqs (sW xs) (sW ys) = decide (xs = ys)
  | [], [] => by simp [weqs]
  | [], y :: ys => by simp [weqs]
  | x :: xs, [] => by simp [weqs]
  | x :: xs, y :: ys => by
    have ih := weqs_s xs ys
    show (weq (.str x) (.str y) && weqs (sW xs) (sW ys)) = _
    rw [ih]
    rw [Bool.eq_iff_iff]
    simp [weq]
theorem weqs_nil {xs : List W} : weqs xs [] = xs.isEmpty := by cases xs <;> simp [weqs]
theorem flat_s (xs : List Str) : (sW xs).all flatW = true := by rw [List.all_map, List.all_eq_true]; intro x _; rfl
theorem any_s (x : Str) (xs : List Str) : ((sW xs).any fun y => weq y (.str x)) = decide (x ∈ xs) := by
  rw [Bool.eq_iff_iff, List.any_map, List.any_eq_true]
  simp only [decide_eq_true_eq, Function.comp]
  constructor
  · rintro ⟨y, hy, e⟩
    have : y = x := by simpa [weq] using e
    rw [← this]; exact hy
  · exact fun h => ⟨x, h, by simp [weq]⟩
theorem sfrom1 (xs : List Str) : cutW (sW xs) (some 1) none = sW xs.tail := by
  cases xs with
  | nil => rfl
  | cons x t =>
    have : ((sW (x :: t)).drop 1).length = t.length := by simp [sW]
    simp only [cutW, HT.sIx, List.tail_cons]
    simp
    exact List.take_of_length_le (by simp)
theorem in_t (x : Str) (ys : List Str) : cmp2 .inn (.str x) (tW ys) = some (decide (x ∈ ys)) := by
  have h1 := flat_s ys
  have h2 := any_s x ys
  simp only [cmp2, items, Option.bind_some, flatW, h1, Bool.true_and, if_true, h2]
theorem in_l (x : Str) (ys : List Str) : cmp2 .inn (.str x) (lW ys) = some (decide (x ∈ ys)) := by
  have h1 := flat_s ys
  have h2 := any_s x ys
  simp only [cmp2, items, Option.bind_some, flatW, h1, Bool.true_and, if_true, h2]
theorem nin_l (x : Str) (ys : List Str) : cmp2 .nin (.str x) (lW ys) = some (!decide (x ∈ ys)) := by
  have h1 := flat_s ys
  have h2 := any_s x ys
  simp only [cmp2, items, Option.bind_some, flatW, h1, Bool.true_and, if_true, h2]
theorem sl_t (ys : List Str) : slc2 (some 1) none (tW ys) = some (.v (tW ys.tail)) := by rw [slc2, sfrom1]
theorem sl_l (ys : List Str) : slc2 (some 1) none (lW ys) = some (.f (sW ys.tail)) := by rw [slc2, sfrom1]
theorem part_ok {k : Nat} {ns : List Int} : ∀ {xs : List Str} {S : List SO}, IsRow ns S → xs.length ≤ 12 → ∃ ys S', callN T (k + 2) 7 [.ref 0, lW xs] S = .ok (.v (tW ys)) S' ∧ IsRow ns S' ∧ ys.Sublist xs := by
  intro xs S hS hx
  rw [callN_eq (fn := d7.fn) rfl rfl]
  refine Exists.elim (forL_ok (step := fStep (callN T (k + 1)) (.nm 3) (.cons (.ifS (.cmp .eq (.call 3 (.cons (.var 0) (.cons (.int 3) .nil))) (.int 0)) (.cons (.asg 2 (.bin .add (.var 2) (.tup (.cons (.var 3) .nil)))) .nil) .nil) .nil))
    (I := fun i st => ∃ (ys : List Str) (o : Option Sl) (S' : List SO), st = ⟨[some (.val (.ref 0)), some (.val (lW xs)), some (.val (tW ys)), o], S'⟩ ∧ IsRow ns S' ∧ ys.Sublist (xs.take i)) (xs := sW xs) (st := ⟨[some (.val (.ref 0)), some (.val (lW xs)), some (.val (tW [])), none], S⟩) ?_ ⟨[], none, S, rfl, hS, by simp⟩) ?_
  · rintro i x st hx' ⟨ys, o, S1, rfl, h1, hs⟩
    obtain ⟨y, hy, rfl⟩ : ∃ y, xs[i]? = some y ∧ W.str y = x := by simpa [sW] using hx'
    obtain ⟨v, S', e, hS', v0, v1⟩ := taken_ok (k := k) h1 (m := 3) (by omega) (by omega)
    have ht : xs.take (i + 1) = xs.take i ++ [y] := by rw [List.take_add_one, hy]; rfl
    have hl : ys.length + 1 ≤ 13 := by
      have := hs.length_le
      rw [List.length_take] at this
      omega
    have hz : szOk (ys.length + 1) = true := decide_eq_true (Nat.le_trans hl (by decide))
    have hz1 : szOk 1 = true := by decide
    by_cases hv : v = 0
    · subst hv
      refine ⟨⟨[some (.val (.ref 0)), some (.val (lW xs)), some (.val (tW (ys ++ [y]))), some (.val (.str y))], S'⟩, ?_, ys ++ [y], _, S', rfl, hS', by rw [ht]; exact hs.append (.refl _)⟩
      simp [fStep, setT, evSs, evS, RS.then, RS.of, evT, ev, evB, EB.of, entryE, bin1, opd, deref, derefV, vw, R.bind, idx2, atI, ixN, cmp2, vB, tst, un1, truth, evO, evA, derefs, blt1, RV.w, op2, slOf, RC.fin, mulOk, e, okd, weq, hz, hz1]
    · refine ⟨⟨[some (.val (.ref 0)), some (.val (lW xs)), some (.val (tW ys)), some (.val (.str y))], S'⟩, ?_, ys, _, S', rfl, hS', by rw [ht]; exact hs.trans (List.sublist_append_left _ _)⟩
      simp [fStep, setT, evSs, evS, RS.then, RS.of, evT, ev, evB, EB.of, entryE, bin1, opd, deref, derefV, vw, R.bind, idx2, atI, ixN, cmp2, vB, tst, un1, truth, evO, evA, derefs, blt1, RV.w, op2, slOf, RC.fin, mulOk, e, okd, weq, hv]
  · rintro st' ⟨e, ys, o, S', rfl, hS', hs⟩
    refine ⟨ys, S', ?_, hS', by rw [List.length_map, List.take_length] at hs; exact hs⟩
    have hf := forS_eq (C := callN T (k + 1)) (g := .nm 3) (src := .seq (.var 1)) (x := (.cons (.ifS (.cmp .eq (.call 3 (.cons (.var 0) (.cons (.int 3) .nil))) (.int 0)) (.cons (.asg 2 (.bin .add (.var 2) (.tup (.cons (.var 3) .nil)))) .nil) .nil) .nil)) (st := ⟨[some (.val (.ref 0)), some (.val (lW xs)), some (.val (tW [])), none], S⟩)
    have hi : evI (callN T (k + 1)) (.seq (.var 1)) ⟨[some (.val (.ref 0)), some (.val (lW xs)), some (.val (tW [])), none], S⟩ = .ok (sW xs) ⟨[some (.val (.ref 0)), some (.val (lW xs)), some (.val (tW [])), none], S⟩ := by
      simp [evI, evSs, evS, RS.then, RS.of, evT, ev, evB, EB.of, entryE, bin1, opd, deref, derefV, vw, R.bind, idx2, atI, ixN, cmp2, vB, tst, un1, truth, evO, evA, derefs, blt1, RV.w, op2, slOf, RC.fin, mulOk, items]
    rw [hi, RS.of, e] at hf
    have hz : szOk 0 = true := by decide
    simp only [d7, b7, evSs]
    have h1 : evS (callN T (k + 1)) (.asg 2 (.tup .nil)) ⟨entryE 4 [.ref 0, lW xs], S⟩ = .nx ⟨[some (.val (.ref 0)), some (.val (lW xs)), some (.val (tW [])), none], S⟩ := by simp [evSs, evS, RS.then, RS.of, evT, ev, evB, EB.of, entryE, bin1, opd, deref, derefV, vw, R.bind, idx2, atI, ixN, cmp2, vB, tst, un1, truth, evO, evA, derefs, blt1, RV.w, op2, slOf, RC.fin, mulOk, hz]
    rw [h1]
    simp only [RS.then]
    rw [hf]
    simp [evSs, evS, RS.then, RS.of, evT, ev, evB, EB.of, entryE, bin1, opd, deref, derefV, vw, R.bind, idx2, atI, ixN, cmp2, vB, tst, un1, truth, evO, evA, derefs, blt1, RV.w, op2, slOf, RC.fin, mulOk]
/-- blocking_list -/
theorem blk_ok {k : Nat} {rest : List (List Str)} {x : Str} {S : List SO} : ∃ w, callN T (k + 1) 0 [.lst (rest.map tW), .str x] S = .ok (.v w) S ∧ ∀ S', isNonW (vw S' w) = !blk rest x := by
  rw [callN_eq (fn := d0.fn) rfl rfl]
  have go : ∀ (rs : List (List Str)) (o : Option Sl), (∃ o', forL (fStep (callN T k) (.nm 2) (.cons (.ifS (.cmp .inn (.var 1) (.sfrom (.var 2) (.int 1))) (.cons (.ret (.var 2)) .nil) .nil) .nil)) (rs.map tW) ⟨[some (.val (.lst (rest.map tW))), some (.val (.str x)), o], S⟩ = .nx ⟨[some (.val (.lst (rest.map tW))), some (.val (.str x)), o'], S⟩ ∧ blk rs x = false) ∨
      ∃ r, forL (fStep (callN T k) (.nm 2) (.cons (.ifS (.cmp .inn (.var 1) (.sfrom (.var 2) (.int 1))) (.cons (.ret (.var 2)) .nil) .nil) .nil)) (rs.map tW) ⟨[some (.val (.lst (rest.map tW))), some (.val (.str x)), o], S⟩ = .ret (.v (tW r)) S ∧ blk rs x = true := by
    intro rs
    induction rs with
    | nil => exact fun o => .inl ⟨o, rfl, rfl⟩
    | cons r rs ih =>
      intro o
      have hs : fStep (callN T k) (.nm 2) (.cons (.ifS (.cmp .inn (.var 1) (.sfrom (.var 2) (.int 1))) (.cons (.ret (.var 2)) .nil) .nil) .nil) (tW r) ⟨[some (.val (.lst (rest.map tW))), some (.val (.str x)), o], S⟩ =
          if x ∈ r.tail then .ret (.v (tW r)) S else .nx ⟨[some (.val (.lst (rest.map tW))), some (.val (.str x)), some (.val (tW r))], S⟩ := by
        have h2 := in_t x r.tail
        have h3 := sl_t r
        by_cases hm : x ∈ r.tail
        · simp [fStep, setT, evSs, evS, RS.then, RS.of, evT, ev, evB, EB.of, entryE, bin1, opd, deref, derefV, vw, R.bind, idx2, atI, ixN, vB, tst, un1, truth, evO, evA, derefs, blt1, RV.w, op2, slOf, RC.fin, mulOk, toI, h3, h2, hm, -List.map_tail]
        · simp [fStep, setT, evSs, evS, RS.then, RS.of, evT, ev, evB, EB.of, entryE, bin1, opd, deref, derefV, vw, R.bind, idx2, atI, ixN, vB, tst, un1, truth, evO, evA, derefs, blt1, RV.w, op2, slOf, RC.fin, mulOk, toI, h3, h2, hm, -List.map_tail]
      have hb : blk (r :: rs) x = (decide (x ∈ r.tail) || blk rs x) := rfl
      by_cases hm : x ∈ r.tail
      · refine .inr ⟨r, ?_, by rw [hb]; simp [hm]⟩
        rw [List.map_cons, forL, hs, if_pos hm]
      · rw [if_neg hm] at hs
        rw [List.map_cons, forL, hs, hb]
        simp only [hm, decide_false, Bool.false_or]
        exact ih _
  have hf := forS_eq (C := callN T k) (g := .nm 2) (src := .seq (.var 0)) (x := (.cons (.ifS (.cmp .inn (.var 1) (.sfrom (.var 2) (.int 1))) (.cons (.ret (.var 2)) .nil) .nil) .nil)) (st := ⟨[some (.val (.lst (rest.map tW))), some (.val (.str x)), none], S⟩)
  have hi : evI (callN T k) (.seq (.var 0)) ⟨[some (.val (.lst (rest.map tW))), some (.val (.str x)), none], S⟩ = .ok (rest.map tW) ⟨[some (.val (.lst (rest.map tW))), some (.val (.str x)), none], S⟩ := by simp [evI, evSs, evS, RS.then, RS.of, evT, ev, evB, EB.of, entryE, bin1, opd, deref, derefV, vw, R.bind, idx2, atI, ixN, cmp2, vB, tst, un1, truth, evO, evA, derefs, blt1, RV.w, op2, slOf, RC.fin, mulOk, items]
  rw [hi, RS.of] at hf
  have he : entryE d0.fn.ns [.lst (rest.map tW), .str x] = [some (.val (.lst (rest.map tW))), some (.val (.str x)), none] := by simp [d0, entryE]
  rw [he]
  simp only [d0, b0, evSs]
  rw [hf]
  rcases go rest none with ⟨o', e, hb⟩ | ⟨r, e, hb⟩
  · refine ⟨.non, ?_, fun _ => by rw [hb]; rfl⟩
    rw [e]
    simp [evSs, evS, RS.then, RS.of, evT, ev, evB, EB.of, entryE, bin1, opd, deref, derefV, vw, R.bind, idx2, atI, ixN, cmp2, vB, tst, un1, truth, evO, evA, derefs, blt1, RV.w, op2, slOf, RC.fin, mulOk]
  · refine ⟨tW r, ?_, fun _ => by rw [hb]; rfl⟩
    rw [e]
    simp [RS.then, RC.fin]
end K01

set_option Elab.async false
set_option linter.all false
set_option maxRecDepth 100000
set_option maxHeartbeats 4000000
namespace K01
open PySem L2 LL Mrg
/-- _law_is_free -/
theorem free_ok {k : Nat} {rest : List (List Str)} {x : Str} {S : List SO} : callN T (k + 1) 6 [.lst (rest.map lW), .str x] S = .ok (.v (.bl (!blk rest x))) S := by
  rw [callN_eq (fn := d6.fn) rfl rfl]
  have go : ∀ (rs : List (List Str)) (o : Option Sl), (∃ o', forL (fStep (callN T k) (.nm 2) (.cons (.ifS (.cmp .inn (.var 1) (.sfrom (.var 2) (.int 1))) (.cons (.ret (.bl false)) .nil) .nil) .nil)) (rs.map lW) ⟨[some (.val (.lst (rest.map lW))), some (.val (.str x)), o], S⟩ = .nx ⟨[some (.val (.lst (rest.map lW))), some (.val (.str x)), o'], S⟩ ∧ blk rs x = false) ∨
      (forL (fStep (callN T k) (.nm 2) (.cons (.ifS (.cmp .inn (.var 1) (.sfrom (.var 2) (.int 1))) (.cons (.ret (.bl false)) .nil) .nil) .nil)) (rs.map lW) ⟨[some (.val (.lst (rest.map lW))), some (.val (.str x)), o], S⟩ = .ret (.v (.bl false)) S ∧ blk rs x = true) := by
    intro rs
    induction rs with
    | nil => exact fun o => .inl ⟨o, rfl, rfl⟩
    | cons r rs ih =>
      intro o
      have hs : fStep (callN T k) (.nm 2) (.cons (.ifS (.cmp .inn (.var 1) (.sfrom (.var 2) (.int 1))) (.cons (.ret (.bl false)) .nil) .nil) .nil) (lW r) ⟨[some (.val (.lst (rest.map lW))), some (.val (.str x)), o], S⟩ =
          if x ∈ r.tail then .ret (.v (.bl false)) S else .nx ⟨[some (.val (.lst (rest.map lW))), some (.val (.str x)), some (.val (lW r))], S⟩ := by
        have h2 := in_l x r.tail
        have h3 := sl_l r
        by_cases hm : x ∈ r.tail
        · simp [fStep, setT, evSs, evS, RS.then, RS.of, evT, ev, evB, EB.of, entryE, bin1, opd, deref, derefV, vw, R.bind, idx2, atI, ixN, vB, tst, un1, truth, evO, evA, derefs, blt1, RV.w, op2, slOf, RC.fin, mulOk, toI, h3, h2, hm, -List.map_tail]
        · simp [fStep, setT, evSs, evS, RS.then, RS.of, evT, ev, evB, EB.of, entryE, bin1, opd, deref, derefV, vw, R.bind, idx2, atI, ixN, vB, tst, un1, truth, evO, evA, derefs, blt1, RV.w, op2, slOf, RC.fin, mulOk, toI, h3, h2, hm, -List.map_tail]
      have hb : blk (r :: rs) x = (decide (x ∈ r.tail) || blk rs x) := rfl
      by_cases hm : x ∈ r.tail
      · refine .inr ⟨?_, by rw [hb]; simp [hm]⟩
        rw [List.map_cons, forL, hs, if_pos hm]
      · rw [if_neg hm] at hs
        rw [List.map_cons, forL, hs, hb]
        simp only [hm, decide_false, Bool.false_or]
        exact ih _
  have hf := forS_eq (C := callN T k) (g := .nm 2) (src := .seq (.var 0)) (x := (.cons (.ifS (.cmp .inn (.var 1) (.sfrom (.var 2) (.int 1))) (.cons (.ret (.bl false)) .nil) .nil) .nil)) (st := ⟨[some (.val (.lst (rest.map lW))), some (.val (.str x)), none], S⟩)
  have hi : evI (callN T k) (.seq (.var 0)) ⟨[some (.val (.lst (rest.map lW))), some (.val (.str x)), none], S⟩ = .ok (rest.map lW) ⟨[some (.val (.lst (rest.map lW))), some (.val (.str x)), none], S⟩ := by simp [evI, evSs, evS, RS.then, RS.of, evT, ev, evB, EB.of, entryE, bin1, opd, deref, derefV, vw, R.bind, idx2, atI, ixN, cmp2, vB, tst, un1, truth, evO, evA, derefs, blt1, RV.w, op2, slOf, RC.fin, mulOk, items]
  rw [hi, RS.of] at hf
  have he : entryE d6.fn.ns [.lst (rest.map lW), .str x] = [some (.val (.lst (rest.map lW))), some (.val (.str x)), none] := by simp [d6, entryE]
  rw [he]
  simp only [d6, b6, evSs]
  rw [hf]
  rcases go rest none with ⟨o', e, hb⟩ | ⟨e, hb⟩
  · rw [e, hb]
    simp [evSs, evS, RS.then, RS.of, evT, ev, evB, EB.of, entryE, bin1, opd, deref, derefV, vw, R.bind, idx2, atI, ixN, cmp2, vB, tst, un1, truth, evO, evA, derefs, blt1, RV.w, op2, slOf, RC.fin, mulOk]
  · rw [e, hb]
    simp [RS.then, RC.fin]
/-! ### the pieces of one turn -/
theorem ne_t (r : List Str) : cmp2 .ne (tW r) (.tup []) = some (ne r) := by
  have h1 := okd_t 59 r
  have h2 : weqs (sW r) [] = !ne r := by cases r <;> simp [weqs, ne]
  have h3 : okd 60 (.tup []) = true := rfl
  simp only [cmp2, h1, h3, weq, h2, Bool.and_true, if_true, Bool.not_not]
theorem ne_l (r : List Str) : cmp2 .ne (lW r) (.lst []) = some (ne r) := by
  have h1 := okd_l 59 r
  have h2 : weqs (sW r) [] = !ne r := by cases r <;> simp [weqs, ne]
  have h3 : okd 60 (.lst []) = true := rfl
  simp only [cmp2, h1, h3, weq, h2, Bool.and_true, if_true, Bool.not_not]
theorem ne_rest (rs : List (List Str)) : cmp2 .ne (.lst (rs.map tW)) (.lst []) = some (!rs.isEmpty) := by
  have h1 : okd 60 (.lst (rs.map tW)) = true := by rw [okd]; exact okds_t 58 rs
  have h2 : weqs (rs.map tW) [] = rs.isEmpty := by cases rs <;> simp [weqs]
  have h3 : okd 60 (.lst []) = true := rfl
  simp only [cmp2, h1, h3, weq, h2, Bool.and_true, if_true]
theorem eq_free (xs : List Str) : cmp2 .eq (lW xs) (.lst []) = some xs.isEmpty := by
  have h1 := okd_l 59 xs
  have h2 : weqs (sW xs) [] = xs.isEmpty := by cases xs <;> simp [weqs]
  have h3 : okd 60 (.lst []) = true := rfl
  simp only [cmp2, h1, h3, weq, h2, Bool.and_true, if_true]
theorem eq_s (x y : Str) : cmp2 .eq (.str x) (.str y) = some (decide (x = y)) := by
  have : (x == y) = decide (x = y) := by rw [Bool.eq_iff_iff]; simp
  simp only [cmp2, okd, weq, this, Bool.and_self, if_true]
theorem ne_s (x y : Str) : cmp2 .ne (.str x) (.str y) = some (!decide (x = y)) := by
  have : (x == y) = decide (x = y) := by rw [Bool.eq_iff_iff]; simp
  simp only [cmp2, okd, weq, this, Bool.and_self, if_true]
theorem fm_map {α β γ : Type} (f : α → β) (g : β → Option γ) (l : List α) : (l.map f).filterMap g = l.filterMap fun x => g (f x) := by
  rw [List.filterMap_map]; rfl
end K01

set_option Elab.async false
set_option linter.all false
set_option maxRecDepth 100000
set_option maxHeartbeats 4000000
namespace K01
open PySem L2 LL Mrg
abbrev En (a1 a2 a3 a4 a5 : Option Sl) : Env' := [some (.val .non), a1, a2, a3, a4, a5]
theorem ne_filter : ∀ rs : List (List Str), rs.filterMap (fun r => if ne r then some (tW r) else none) = (rs.filter ne).map tW
  | [] => rfl
  | r :: rs => by
    have ih := ne_filter rs
    rw [List.filterMap_cons, List.filter_cons]
    cases ne r
    · exact ih
    · show tW r :: _ = List.map tW (r :: _)
      rw [ih]; rfl
/-- the rows that are not empty -/
theorem comp_ne {C : CT} {j : Nat} {st st0 : ST} {a1 a2 a3 a4 : Option Sl} {S : List SO} {rs : List (List Str)} (h0 : st0 = ⟨En a1 a2 a3 a4 none, S⟩) (hs : evI C (.seq (.var j)) st = .ok (rs.map tW) st0) :
    (evB C (.comp (.var 5) (.nm 5) (.seq (.var j)) (.cmp .ne (.var 5) (.tup .nil)) true)).v st = .ok (.f ((rs.filter ne).map tW)) ⟨En a1 a2 a3 a4 none, S⟩ := by
  subst h0
  have hz : szOk 0 = true := by decide
  rw [comp_nm (g := fun r => if ne r then some (tW r) else none) hs (by simp) ?_]
  · congr 2
    exact ne_filter rs
  · intro r hr
    have h1 := ne_t r
    cases hn : ne r <;> (rw [hn] at h1; simp [evSs, evS, RS.then, RS.of, evT, ev, evB, EB.of, entryE, bin1, opd, deref, derefV, vw, R.bind, idx2, atI, ixN, vB, tst, un1, truth, evO, evA, derefs, blt1, RV.w, op2, slOf, RC.fin, mulOk, hz, h1])
/-- the heads that may come -/
def hdW (rs : List (List Str)) (r : List Str) : Option W := match r with
  | x :: _ => if blk rs x then none else some (.str x)
  | [] => none
theorem hdW_eq (rs all : List (List Str)) : all.filterMap (hdW rs) = sW (free rs all) := by
  unfold free sW
  rw [List.map_filterMap]
  congr 1
  funext r
  cases r with
  | nil => rfl
  | cons y t =>
    show (if blk rs y then none else some (W.str y)) = Option.map W.str (if blk rs y then none else some y)
    cases blk rs y <;> rfl
theorem comp_free {k : Nat} {st : ST} {a1 a2 a4 : Option Sl} {S : List SO} {rs : List (List Str)} (hr : ∀ r ∈ rs, r ≠ []) (h0 : st = ⟨En a1 a2 (some (.own (rs.map tW))) a4 none, S⟩) :
    (evB (callN T (k + 1)) (.comp (.idx (.var 5) (.int 0)) (.nm 5) (.seq (.var 3)) (.cmp .isN (.call 0 (.cons (.var 3) (.cons (.idx (.var 5) (.int 0)) .nil))) .non) true)).v st =
      .ok (.f (sW (free rs rs))) ⟨En a1 a2 (some (.val (.lst (rs.map tW)))) a4 none, S⟩ := by
  subst h0
  have hs : evI (callN T (k + 1)) (.seq (.var 3)) ⟨En a1 a2 (some (.own (rs.map tW))) a4 none, S⟩ = .ok (rs.map tW) ⟨En a1 a2 (some (.val (.lst (rs.map tW)))) a4 none, S⟩ := by simp [evI, evSs, evS, RS.then, RS.of, evT, ev, evB, EB.of, entryE, bin1, opd, deref, derefV, vw, R.bind, idx2, atI, ixN, cmp2, vB, tst, un1, truth, evO, evA, derefs, blt1, RV.w, op2, slOf, RC.fin, mulOk, items]
  rw [comp_nm (g := hdW rs) hs (by simp) ?_, hdW_eq]
  · rfl
  · intro r hm
    cases r with
    | nil => exact (hr _ hm rfl).elim
    | cons y t =>
      obtain ⟨w, e, hw⟩ := blk_ok (k := k) (rest := rs) (x := y) (S := S)
      have hw2 := hw S
      unfold vw at hw2
      cases hb : blk rs y with
      | true =>
        rw [hb] at hw2
        simp [evSs, evS, RS.then, RS.of, evT, ev, evB, EB.of, entryE, bin1, opd, deref, derefV, vw, R.bind, idx2, atI, ixN, cmp2, vB, tst, un1, truth, evO, evA, derefs, blt1, RV.w, op2, slOf, RC.fin, mulOk, e, hw2, hb, hdW]
      | false =>
        rw [hb] at hw2
        simp [evSs, evS, RS.then, RS.of, evT, ev, evB, EB.of, entryE, bin1, opd, deref, derefV, vw, R.bind, idx2, atI, ixN, cmp2, vB, tst, un1, truth, evO, evA, derefs, blt1, RV.w, op2, slOf, RC.fin, mulOk, e, hw2, hb, hdW]
/-- the head taken away -/
theorem comp_drp {C : CT} {st : ST} {a1 a2 : Option Sl} {S : List SO} {rs : List (List Str)} {x : Str} {fr : List Str} (hr : ∀ r ∈ rs, r ≠ []) (h0 : st = ⟨En a1 a2 (some (.val (.lst (rs.map tW)))) (some (.own (sW (x :: fr)))) none, S⟩) :
    (evB C (.comp (.ifE (.cmp .eq (.idx (.var 5) (.int 0)) (.idx (.var 4) (.int 0))) (.sfrom (.var 5) (.int 1)) (.var 5)) (.nm 5) (.seq (.var 3)) .non false)).v st =
      .ok (.f ((rs.map (drp x)).map tW)) st := by
  subst h0
  have hs : evI C (.seq (.var 3)) ⟨En a1 a2 (some (.val (.lst (rs.map tW)))) (some (.own (sW (x :: fr)))) none, S⟩ = .ok (rs.map tW) ⟨En a1 a2 (some (.val (.lst (rs.map tW)))) (some (.own (sW (x :: fr)))) none, S⟩ := by simp [evI, evSs, evS, RS.then, RS.of, evT, ev, evB, EB.of, entryE, bin1, opd, deref, derefV, vw, R.bind, idx2, atI, ixN, cmp2, vB, tst, un1, truth, evO, evA, derefs, blt1, RV.w, op2, slOf, RC.fin, mulOk, items]
  rw [comp_nm (g := fun r => some (tW (drp x r))) hs (by simp) ?_]
  · have : rs.filterMap (fun r => some (tW (drp x r))) = (rs.map (drp x)).map tW := by
      rw [List.filterMap_eq_map', List.map_map]; rfl
    rw [this]; rfl
  · intro r hm
    cases r with
    | nil => exact (hr _ hm rfl).elim
    | cons y t =>
      have h1 := eq_s y x
      have h3 := sl_t (y :: t)
      by_cases hy : y = x
      · subst hy
        simp [evSs, evS, RS.then, RS.of, evT, ev, evB, EB.of, entryE, bin1, opd, deref, derefV, vw, R.bind, idx2, atI, ixN, vB, tst, un1, truth, evO, evA, derefs, blt1, RV.w, op2, slOf, RC.fin, mulOk, h1, toI, h3, drp]
      · simp [evSs, evS, RS.then, RS.of, evT, ev, evB, EB.of, entryE, bin1, opd, deref, derefV, vw, R.bind, idx2, atI, ixN, vB, tst, un1, truth, evO, evA, derefs, blt1, RV.w, op2, slOf, RC.fin, mulOk, h1, toI, h3, hy, drp]
/-- merge_for -/
theorem mfor_ok {k : Nat} {L : List (List Str)} {out : List Str} {S : List SO} (g : Go (L.filter ne) out) (hl : out.length ≤ 1000) : callN T (k + 2) 1 [.non, .tup (L.map tW)] S = .ok (.v (tW out)) S := by
  rw [callN_eq (fn := d1.fn) rfl rfl]
  have hz : szOk 0 = true := by decide
  have he : entryE d1.fn.ns [.non, .tup (L.map tW)] = En (some (.val (.tup (L.map tW)))) none none none none := by simp [d1, entryE]
  rw [he]
  simp only [d1, b1, evSs]
  -- the pair
  have h1 : evS (callN T (k + 1)) (.par 2 3 (.lst .nil) (.comp (.var 5) (.nm 5) (.seq (.var 1)) (.cmp .ne (.var 5) (.tup .nil)) true)) ⟨En (some (.val (.tup (L.map tW)))) none none none none, S⟩ =
      .nx ⟨En (some (.val (.tup (L.map tW)))) (some (.own (sW []))) (some (.own ((L.filter ne).map tW))) none none, S⟩ := by
    have hc := comp_ne (C := callN T (k + 1)) (j := 1) (st := ⟨En (some (.val (.tup (L.map tW)))) none none none none, S⟩) (st0 := ⟨En (some (.val (.tup (L.map tW)))) none none none none, S⟩) (rs := L) rfl (by simp [evI, evSs, evS, RS.then, RS.of, evT, ev, evB, EB.of, entryE, bin1, opd, deref, derefV, vw, R.bind, idx2, atI, ixN, cmp2, vB, tst, un1, truth, evO, evA, derefs, blt1, RV.w, op2, slOf, RC.fin, mulOk, items])
    simp only [evS, ev]
    rw [show (evB (callN T (k + 1)) (.lst .nil)).v ⟨En (some (.val (.tup (L.map tW)))) none none none none, S⟩ = .ok (.f []) ⟨En (some (.val (.tup (L.map tW)))) none none none none, S⟩ by simp [evSs, evS, RS.then, RS.of, evT, ev, evB, EB.of, entryE, bin1, opd, deref, derefV, vw, R.bind, idx2, atI, ixN, cmp2, vB, tst, un1, truth, evO, evA, derefs, blt1, RV.w, op2, slOf, RC.fin, mulOk, hz]]
    simp only [RS.of, hc, slOf]
    rfl
  rw [h1]
  simp only [RS.then]
  -- the loop
  have hw : ∃ st', evS (callN T (k + 1)) (.whl (.cmp .ne (.var 3) (.lst .nil)) (.cons (.asg 4 (.comp (.idx (.var 5) (.int 0)) (.nm 5) (.seq (.var 3)) (.cmp .isN (.call 0 (.cons (.var 3) (.cons (.idx (.var 5) (.int 0)) .nil))) .non) true)) (.cons (.ifS (.cmp .eq (.var 4) (.lst .nil)) (.cons .nvr .nil) .nil) (.cons (.app 2 (.idx (.var 4) (.int 0))) (.cons (.asg 3 (.comp (.ifE (.cmp .eq (.idx (.var 5) (.int 0)) (.idx (.var 4) (.int 0))) (.sfrom (.var 5) (.int 1)) (.var 5)) (.nm 5) (.seq (.var 3)) .non false)) (.cons (.asg 3 (.comp (.var 5) (.nm 5) (.seq (.var 3)) (.cmp .ne (.var 5) (.tup .nil)) true)) .nil))))))
      ⟨En (some (.val (.tup (L.map tW)))) (some (.own (sW []))) (some (.own ((L.filter ne).map tW))) none none, S⟩ = .nx st' ∧ ∃ a3 a4, st' = ⟨En (some (.val (.tup (L.map tW)))) (some (.own (sW out))) a3 a4 none, S⟩ := by
    simp only [evS]
    refine whileL_ok (I := fun n st => ∃ (fd : List Str) (rs : List (List Str)) (o2 : List Str) (a4 : Option Sl), st = ⟨En (some (.val (.tup (L.map tW)))) (some (.own (sW fd))) (some (.own (rs.map tW))) a4 none, S⟩ ∧ (∀ r ∈ rs, r ≠ []) ∧ Go rs o2 ∧ fd ++ o2 = out ∧ n = o2.length)
      ?_ FU out.length _ ⟨[], L.filter ne, out, none, rfl, fun r hr => ?_, g, rfl, rfl⟩ (Nat.lt_of_le_of_lt hl (by decide))
    · rintro n st ⟨fd, rs, o2, a4, rfl, hr, g2, ho, rfl⟩
      have hn := ne_rest rs
      have hc : evT (callN T (k + 1)) (.cmp .ne (.var 3) (.lst .nil)) ⟨En (some (.val (.tup (L.map tW)))) (some (.own (sW fd))) (some (.own (rs.map tW))) a4 none, S⟩ = .ok (!rs.isEmpty) ⟨En (some (.val (.tup (L.map tW)))) (some (.own (sW fd))) (some (.own (rs.map tW))) a4 none, S⟩ := by
        simp [evSs, evS, RS.then, RS.of, evT, ev, evB, EB.of, entryE, bin1, opd, deref, derefV, vw, R.bind, idx2, atI, ixN, vB, tst, un1, truth, evO, evA, derefs, blt1, RV.w, op2, slOf, RC.fin, mulOk, hz, hn]
      cases g2 with
      | nil =>
        rw [List.append_nil] at ho
        subst ho
        exact .inl ⟨_, hc, some (.own []), a4, rfl⟩
      | @cons _ x xs o3 hf g3 =>
        have hne : rs ≠ [] := fun z => by rw [z] at hf; simp [free] at hf
        have hi : rs.isEmpty = false := by cases rs with
          | nil => exact (hne rfl).elim
          | cons _ _ => rfl
        rw [hi] at hc
        refine .inr ⟨_, ⟨En (some (.val (.tup (L.map tW)))) (some (.own (sW (fd ++ [x])))) (some (.own ((adv x rs).map tW))) (some (.own (sW (x :: xs)))) none, S⟩, o3.length, hc, ?_, by simp, fd ++ [x], adv x rs, o3, _, rfl, fun r hm => (mem_adv.mp hm).1, g3, by rw [List.append_assoc]; exact ho, rfl⟩
        have s1 : evS (callN T (k + 1)) (.asg 4 (.comp (.idx (.var 5) (.int 0)) (.nm 5) (.seq (.var 3)) (.cmp .isN (.call 0 (.cons (.var 3) (.cons (.idx (.var 5) (.int 0)) .nil))) .non) true)) ⟨En (some (.val (.tup (L.map tW)))) (some (.own (sW fd))) (some (.own (rs.map tW))) a4 none, S⟩ =
            .nx ⟨En (some (.val (.tup (L.map tW)))) (some (.own (sW fd))) (some (.val (.lst (rs.map tW)))) (some (.own (sW (x :: xs)))) none, S⟩ := by
          simp only [evS, ev]
          rw [comp_free hr rfl, hf]
          rfl
        have h2 : cmp2 .eq (.lst (.str x :: xs.map W.str)) (.lst []) = some false := eq_free (x :: xs)
        have s2 : evS (callN T (k + 1)) (.ifS (.cmp .eq (.var 4) (.lst .nil)) (.cons .nvr .nil) .nil) ⟨En (some (.val (.tup (L.map tW)))) (some (.own (sW fd))) (some (.val (.lst (rs.map tW)))) (some (.own (sW (x :: xs)))) none, S⟩ =
            .nx ⟨En (some (.val (.tup (L.map tW)))) (some (.own (sW fd))) (some (.val (.lst (rs.map tW)))) (some (.own (sW (x :: xs)))) none, S⟩ := by
          simp [evSs, evS, RS.then, RS.of, evT, ev, evB, EB.of, entryE, bin1, opd, deref, derefV, vw, R.bind, idx2, atI, ixN, vB, tst, un1, truth, evO, evA, derefs, blt1, RV.w, op2, slOf, RC.fin, mulOk, hz, h2]
        have hlen : fd.length + 1 ≤ 1000 := by
          have := congrArg List.length ho
          simp at this
          omega
        have hz1 : szOk (fd.length + 1) = true := decide_eq_true (Nat.le_trans hlen (by decide))
        have s3 : evS (callN T (k + 1)) (.app 2 (.idx (.var 4) (.int 0))) ⟨En (some (.val (.tup (L.map tW)))) (some (.own (sW fd))) (some (.val (.lst (rs.map tW)))) (some (.own (sW (x :: xs)))) none, S⟩ =
            .nx ⟨En (some (.val (.tup (L.map tW)))) (some (.own (sW (fd ++ [x])))) (some (.val (.lst (rs.map tW)))) (some (.own (sW (x :: xs)))) none, S⟩ := by
          simp [evSs, evS, RS.then, RS.of, evT, ev, evB, EB.of, entryE, bin1, opd, deref, derefV, vw, R.bind, idx2, atI, ixN, cmp2, vB, tst, un1, truth, evO, evA, derefs, blt1, RV.w, op2, slOf, RC.fin, mulOk, hz1]
        have s4 : evS (callN T (k + 1)) (.asg 3 (.comp (.ifE (.cmp .eq (.idx (.var 5) (.int 0)) (.idx (.var 4) (.int 0))) (.sfrom (.var 5) (.int 1)) (.var 5)) (.nm 5) (.seq (.var 3)) .non false)) ⟨En (some (.val (.tup (L.map tW)))) (some (.own (sW (fd ++ [x])))) (some (.val (.lst (rs.map tW)))) (some (.own (sW (x :: xs)))) none, S⟩ =
            .nx ⟨En (some (.val (.tup (L.map tW)))) (some (.own (sW (fd ++ [x])))) (some (.own ((rs.map (drp x)).map tW))) (some (.own (sW (x :: xs)))) none, S⟩ := by
          simp only [evS, ev]
          rw [comp_drp hr rfl]
          rfl
        have s5 : evS (callN T (k + 1)) (.asg 3 (.comp (.var 5) (.nm 5) (.seq (.var 3)) (.cmp .ne (.var 5) (.tup .nil)) true)) ⟨En (some (.val (.tup (L.map tW)))) (some (.own (sW (fd ++ [x])))) (some (.own ((rs.map (drp x)).map tW))) (some (.own (sW (x :: xs)))) none, S⟩ =
            .nx ⟨En (some (.val (.tup (L.map tW)))) (some (.own (sW (fd ++ [x])))) (some (.own ((adv x rs).map tW))) (some (.own (sW (x :: xs)))) none, S⟩ := by
          simp only [evS, ev]
          rw [comp_ne (rs := rs.map (drp x)) (a1 := some (.val (.tup (L.map tW)))) (a2 := some (.own (sW (fd ++ [x])))) (a3 := some (.val (.lst ((rs.map (drp x)).map tW)))) (a4 := some (.own (sW (x :: xs)))) (S := S) rfl (by simp [evI, evSs, evS, RS.then, RS.of, evT, ev, evB, EB.of, entryE, bin1, opd, deref, derefV, vw, R.bind, idx2, atI, ixN, cmp2, vB, tst, un1, truth, evO, evA, derefs, blt1, RV.w, op2, slOf, RC.fin, mulOk, items])]
          rfl
        simp only [evSs, s1, s2, s3, s4, s5, RS.then]
    · have := (List.mem_filter.mp hr).2
      intro z
      rw [z] at this
      cases this
  obtain ⟨st', e, a3, a4, rfl⟩ := hw
  rw [e]
  simp [evSs, evS, RS.then, RS.of, evT, ev, evB, EB.of, entryE, bin1, opd, deref, derefV, vw, R.bind, idx2, atI, ixN, cmp2, vB, tst, un1, truth, evO, evA, derefs, blt1, RV.w, op2, slOf, RC.fin, mulOk]
end K01

set_option Elab.async false
set_option linter.all false
set_option maxRecDepth 100000
set_option maxHeartbeats 8000000
namespace K01
open PySem L2 LL Mrg
theorem news_nodup {xs : List Str} (h : xs.Nodup) : ∀ i, i ≤ xs.length → news xs i = i
  | 0, _ => rfl
  | i + 1, hi => by
    have ih := news_nodup h i (by omega)
    have hx : xs.getD i Str.empty = xs[i] := by
      rw [List.getD_eq_getElem?_getD, List.getElem?_eq_getElem (by omega)]; rfl
    have hm : xs[i] ∉ xs.take i := fun z => by
      obtain ⟨j, hj, e⟩ := List.mem_iff_getElem.mp z
      rw [List.length_take] at hj
      rw [List.getElem_take] at e
      have := (List.getElem_inj h).mp e
      omega
    rw [news, hx, if_neg (by simpa using hm), ih]
theorem strsW_s : ∀ xs : List Str, strsW (sW xs) = some xs
  | [] => rfl
  | x :: xs => by
    show (strsW (sW xs)).map (x :: ·) = _
    rw [strsW_s xs]; rfl
/-- merge -/
theorem merge_ok {k : Nat} {L : List (List Str)} {out : List Str} {S : List SO} (hL : ∀ r ∈ L, r.Nodup ∧ r.length ≤ 1000) (g : Go (L.filter ne) out) (hl : out.length ≤ 1000) : callN T (k + 3) 2 [.tup (L.map tW)] S = .ok (.v (tW out)) S := by
  rw [callN_eq (fn := d2.fn) rfl rfl]
  have he : entryE d2.fn.ns [.tup (L.map tW)] = [some (.val (.tup (L.map tW))), none, none] := by simp [d2, entryE]
  rw [he]
  simp only [d2, b2, evSs]
  have hf := forS_eq (C := callN T (k + 2)) (g := .tp [1, 2]) (src := .enm (.var 0)) (x := (.cons (.ifS (.cmp .lt (.setLen (.var 2)) (.blt .len (.cons (.var 2) .nil))) (.cons .nvr .nil) .nil) .nil)) (st := ⟨[some (.val (.tup (L.map tW))), none, none], S⟩)
  have hi : evI (callN T (k + 2)) (.enm (.var 0)) ⟨[some (.val (.tup (L.map tW))), none, none], S⟩ = .ok (enumW 0 (L.map tW)) ⟨[some (.val (.tup (L.map tW))), none, none], S⟩ := by simp [evI, evSs, evS, RS.then, RS.of, evT, ev, evB, EB.of, entryE, bin1, opd, deref, derefV, vw, R.bind, idx2, atI, ixN, cmp2, vB, tst, un1, truth, evO, evA, derefs, blt1, RV.w, op2, slOf, RC.fin, mulOk, items]
  rw [hi, RS.of] at hf
  rw [hf]
  refine Exists.elim (forL_ok (step := fStep (callN T (k + 2)) (.tp [1, 2]) (.cons (.ifS (.cmp .lt (.setLen (.var 2)) (.blt .len (.cons (.var 2) .nil))) (.cons .nvr .nil) .nil) .nil)) (I := fun _ st => ∃ o1 o2, st = ⟨[some (.val (.tup (L.map tW))), o1, o2], S⟩) (xs := enumW 0 (L.map tW)) (st := ⟨[some (.val (.tup (L.map tW))), none, none], S⟩) ?_ ⟨_, _, rfl⟩) ?_
  · rintro i x st hx ⟨o1, o2, rfl⟩
    rw [enumW_get, List.getElem?_map] at hx
    cases er : L[i]? with
    | none => rw [er] at hx; cases hx
    | some r =>
      rw [er] at hx
      cases hx
      obtain ⟨hn, hz⟩ := hL r (List.mem_of_getElem? er)
      have e1 := strsW_s r
      have e2 := news_nodup hn r.length (Nat.le_refl _)
      have e3 : r.length + 1 < scanBound := Nat.lt_of_le_of_lt (Nat.succ_le_succ hz) (by decide)
      exact ⟨⟨[some (.val (.tup (L.map tW))), some (.val (.int ((0 + i : Nat) : Int))), some (.val (tW r))], S⟩, by simp [fStep, setT, evSs, evS, RS.then, RS.of, evT, ev, evB, EB.of, entryE, bin1, opd, deref, derefV, vw, R.bind, idx2, atI, ixN, cmp2, vB, tst, un1, truth, evO, evA, derefs, blt1, RV.w, op2, slOf, RC.fin, mulOk, e1, e2, e3], _, _, rfl⟩
  · rintro st' ⟨e, o1, o2, rfl⟩
    have h := mfor_ok (k := k) (S := S) g hl
    rw [e]
    simp [evSs, evS, RS.then, RS.of, evT, ev, evB, EB.of, entryE, bin1, opd, deref, derefV, vw, R.bind, idx2, atI, ixN, cmp2, vB, tst, un1, truth, evO, evA, derefs, blt1, RV.w, op2, slOf, RC.fin, mulOk, h]
abbrev Ev (ns : List Int) (a2 a3 a4 a5 a6 a7 a8 a9 a10 : Option Sl) : Env' := [some (.val (.scr ns)), some (.val (.ref 0)), a2, a3, a4, a5, a6, a7, a8, a9, a10]
/-! ### the second half of the law -/
theorem ne_filterL : ∀ rs : List (List Str), rs.filterMap (fun r => if ne r then some (lW r) else none) = (rs.filter ne).map lW
  | [] => rfl
  | r :: rs => by
    have ih := ne_filterL rs
    rw [List.filterMap_cons, List.filter_cons]
    cases ne r
    · exact ih
    · show lW r :: _ = List.map lW (r :: _)
      rw [ih]; rfl
theorem lcomp_ne {C : CT} {ns : List Int} {a2 a3 a4 a5 a6 a9 a10 : Option Sl} {o7 : Option W} {S : List SO} {rs : List (List Str)} :
    (evB C (.comp (.var 7) (.nm 7) (.seq (.var 8)) (.cmp .ne (.var 7) (.lst .nil)) true)).v ⟨Ev ns a2 a3 a4 a5 a6 (o7.map .val) (some (.own (rs.map lW))) a9 a10, S⟩ =
      .ok (.f ((rs.filter ne).map lW)) ⟨Ev ns a2 a3 a4 a5 a6 (o7.map .val) (some (.val (.lst (rs.map lW)))) a9 a10, S⟩ := by
  have hz : szOk 0 = true := by decide
  have hs : evI C (.seq (.var 8)) ⟨Ev ns a2 a3 a4 a5 a6 (o7.map .val) (some (.own (rs.map lW))) a9 a10, S⟩ = .ok (rs.map lW) ⟨Ev ns a2 a3 a4 a5 a6 (o7.map .val) (some (.val (.lst (rs.map lW)))) a9 a10, S⟩ := by simp [evI, evSs, evS, RS.then, RS.of, evT, ev, evB, EB.of, entryE, bin1, opd, deref, derefV, vw, R.bind, idx2, atI, ixN, cmp2, vB, tst, un1, truth, evO, evA, derefs, blt1, RV.w, op2, slOf, RC.fin, mulOk, items]
  rw [comp_nm (g := fun r => if ne r then some (lW r) else none) hs (by simp) ?_, ne_filterL]
  · cases o7 <;> rfl
  · intro r hr
    have h1 := ne_l r
    cases hn : ne r <;> (rw [hn] at h1; simp [evSs, evS, RS.then, RS.of, evT, ev, evB, EB.of, entryE, bin1, opd, deref, derefV, vw, R.bind, idx2, atI, ixN, vB, tst, un1, truth, evO, evA, derefs, blt1, RV.w, op2, slOf, RC.fin, mulOk, hz, h1])
theorem lcomp_free {k : Nat} {ns : List Int} {a2 a3 a4 a5 a6 a9 a10 : Option Sl} {o7 : Option W} {S : List SO} {rs : List (List Str)} (hr : ∀ r ∈ rs, r ≠ []) :
    (evB (callN T (k + 1)) (.comp (.idx (.var 7) (.int 0)) (.nm 7) (.seq (.var 8)) (.call 6 (.cons (.var 8) (.cons (.idx (.var 7) (.int 0)) .nil))) true)).v ⟨Ev ns a2 a3 a4 a5 a6 (o7.map .val) (some (.own (rs.map lW))) a9 a10, S⟩ =
      .ok (.f (sW (free rs rs))) ⟨Ev ns a2 a3 a4 a5 a6 (o7.map .val) (some (.val (.lst (rs.map lW)))) a9 a10, S⟩ := by
  have hs : evI (callN T (k + 1)) (.seq (.var 8)) ⟨Ev ns a2 a3 a4 a5 a6 (o7.map .val) (some (.own (rs.map lW))) a9 a10, S⟩ = .ok (rs.map lW) ⟨Ev ns a2 a3 a4 a5 a6 (o7.map .val) (some (.val (.lst (rs.map lW)))) a9 a10, S⟩ := by simp [evI, evSs, evS, RS.then, RS.of, evT, ev, evB, EB.of, entryE, bin1, opd, deref, derefV, vw, R.bind, idx2, atI, ixN, cmp2, vB, tst, un1, truth, evO, evA, derefs, blt1, RV.w, op2, slOf, RC.fin, mulOk, items]
  rw [comp_nm (g := hdW rs) hs (by simp) ?_, hdW_eq]
  · cases o7 <;> rfl
  · intro r hm
    cases r with
    | nil => exact (hr _ hm rfl).elim
    | cons y t =>
      have e := free_ok (k := k) (rest := rs) (x := y) (S := S)
      cases hb : blk rs y with
      | true =>
        rw [hb] at e
        simp [evSs, evS, RS.then, RS.of, evT, ev, evB, EB.of, entryE, bin1, opd, deref, derefV, vw, R.bind, idx2, atI, ixN, cmp2, vB, tst, un1, truth, evO, evA, derefs, blt1, RV.w, op2, slOf, RC.fin, mulOk, e, hb, hdW]
      | false =>
        rw [hb] at e
        simp [evSs, evS, RS.then, RS.of, evT, ev, evB, EB.of, entryE, bin1, opd, deref, derefV, vw, R.bind, idx2, atI, ixN, cmp2, vB, tst, un1, truth, evO, evA, derefs, blt1, RV.w, op2, slOf, RC.fin, mulOk, e, hb, hdW]
theorem lcomp_drp {C : CT} {ns : List Int} {a2 a3 a4 a5 a6 a10 : Option Sl} {o7 : Option W} {S : List SO} {rs : List (List Str)} {x : Str} (hr : ∀ r ∈ rs, r ≠ []) :
    (evB C (.comp (.ifE (.cmp .eq (.idx (.var 7) (.int 0)) (.var 9)) (.sfrom (.var 7) (.int 1)) (.var 7)) (.nm 7) (.seq (.var 8)) .non false)).v ⟨Ev ns a2 a3 a4 a5 a6 (o7.map .val) (some (.val (.lst (rs.map lW)))) (some (.val (.str x))) a10, S⟩ =
      .ok (.f ((rs.map (drp x)).map lW)) ⟨Ev ns a2 a3 a4 a5 a6 (o7.map .val) (some (.val (.lst (rs.map lW)))) (some (.val (.str x))) a10, S⟩ := by
  have hs : evI C (.seq (.var 8)) ⟨Ev ns a2 a3 a4 a5 a6 (o7.map .val) (some (.val (.lst (rs.map lW)))) (some (.val (.str x))) a10, S⟩ = .ok (rs.map lW) ⟨Ev ns a2 a3 a4 a5 a6 (o7.map .val) (some (.val (.lst (rs.map lW)))) (some (.val (.str x))) a10, S⟩ := by simp [evI, evSs, evS, RS.then, RS.of, evT, ev, evB, EB.of, entryE, bin1, opd, deref, derefV, vw, R.bind, idx2, atI, ixN, cmp2, vB, tst, un1, truth, evO, evA, derefs, blt1, RV.w, op2, slOf, RC.fin, mulOk, items]
  rw [comp_nm (g := fun r => some (lW (drp x r))) hs (by simp) ?_]
  · have : rs.filterMap (fun r => some (lW (drp x r))) = (rs.map (drp x)).map lW := by
      rw [List.filterMap_eq_map', List.map_map]; rfl
    rw [this]
    cases o7 <;> rfl
  · intro r hm
    cases r with
    | nil => exact (hr _ hm rfl).elim
    | cons y t =>
      have h1 := eq_s y x
      have h3 := sl_l (y :: t)
      by_cases hy : y = x
      · subst hy
        simp [evSs, evS, RS.then, RS.of, evT, ev, evB, EB.of, entryE, bin1, opd, deref, derefV, vw, R.bind, idx2, atI, ixN, vB, tst, un1, truth, evO, evA, derefs, blt1, RV.w, op2, slOf, RC.fin, mulOk, h1, toI, h3, drp]
      · simp [evSs, evS, RS.then, RS.of, evT, ev, evB, EB.of, entryE, bin1, opd, deref, derefV, vw, R.bind, idx2, atI, ixN, vB, tst, un1, truth, evO, evA, derefs, blt1, RV.w, op2, slOf, RC.fin, mulOk, h1, toI, h3, hy, drp]
/-- the rows as lists -/
theorem lcomp_list {C : CT} {ns : List Int} {a2 a4 a5 a6 a8 a9 a10 : Option Sl} {o7 : Option W} {S : List SO} {L : List (List Str)} :
    (evB C (.comp (.blt .list (.cons (.var 7) .nil)) (.nm 7) (.seq (.var 3)) .non false)).v ⟨Ev ns a2 (some (.val (.tup (L.map tW)))) a4 a5 a6 (o7.map .val) a8 a9 a10, S⟩ =
      .ok (.f (L.map lW)) ⟨Ev ns a2 (some (.val (.tup (L.map tW)))) a4 a5 a6 (o7.map .val) a8 a9 a10, S⟩ := by
  have hs : evI C (.seq (.var 3)) ⟨Ev ns a2 (some (.val (.tup (L.map tW)))) a4 a5 a6 (o7.map .val) a8 a9 a10, S⟩ = .ok (L.map tW) ⟨Ev ns a2 (some (.val (.tup (L.map tW)))) a4 a5 a6 (o7.map .val) a8 a9 a10, S⟩ := by simp [evI, evSs, evS, RS.then, RS.of, evT, ev, evB, EB.of, entryE, bin1, opd, deref, derefV, vw, R.bind, idx2, atI, ixN, cmp2, vB, tst, un1, truth, evO, evA, derefs, blt1, RV.w, op2, slOf, RC.fin, mulOk, items]
  rw [comp_nm (g := fun r => some (lW r)) hs (by simp) ?_]
  · have : L.filterMap (fun r => some (lW r)) = L.map lW := by rw [List.filterMap_eq_map']
    rw [this]
    cases o7 <;> rfl
  · intro r hm
    simp [evSs, evS, RS.then, RS.of, evT, ev, evB, EB.of, entryE, bin1, opd, deref, derefV, vw, R.bind, idx2, atI, ixN, cmp2, vB, tst, un1, truth, evO, evA, derefs, blt1, RV.w, op2, slOf, RC.fin, mulOk]
/-- the names that are new -/
theorem lcomp_new {C : CT} {ns : List Int} {a2 a3 a4 a5 a8 a10 : Option Sl} {S : List SO} {r nm : List Str} :
    (evB C (.comp (.var 9) (.nm 9) (.seq (.var 7)) (.cmp .nin (.var 9) (.var 6)) true)).v ⟨Ev ns a2 a3 a4 a5 (some (.own (sW nm))) (some (.val (tW r))) a8 none a10, S⟩ =
      .ok (.f (sW (r.filter fun x => !decide (x ∈ nm)))) ⟨Ev ns a2 a3 a4 a5 (some (.own (sW nm))) (some (.val (tW r))) a8 none a10, S⟩ := by
  have hs : evI C (.seq (.var 7)) ⟨Ev ns a2 a3 a4 a5 (some (.own (sW nm))) (some (.val (tW r))) a8 none a10, S⟩ = .ok (r.map W.str) ⟨Ev ns a2 a3 a4 a5 (some (.own (sW nm))) (some (.val (tW r))) a8 none a10, S⟩ := by simp [evI, evSs, evS, RS.then, RS.of, evT, ev, evB, EB.of, entryE, bin1, opd, deref, derefV, vw, R.bind, idx2, atI, ixN, cmp2, vB, tst, un1, truth, evO, evA, derefs, blt1, RV.w, op2, slOf, RC.fin, mulOk, items]
  rw [comp_nm (g := fun x => if x ∈ nm then none else some (.str x)) hs (by simp) ?_]
  · have : ∀ l : List Str, l.filterMap (fun x => if x ∈ nm then none else some (W.str x)) = sW (l.filter fun x => !decide (x ∈ nm)) := by
      intro l
      induction l with
      | nil => rfl
      | cons x l ih =>
        by_cases hx : x ∈ nm
        · simp [hx] at ih ⊢
          exact ih
        · simp [hx] at ih ⊢
          exact ih
    rw [this]; rfl
  · intro x hx
    have h1 := nin_l x nm
    by_cases hm : x ∈ nm <;> simp [evSs, evS, RS.then, RS.of, evT, ev, evB, EB.of, entryE, bin1, opd, deref, derefV, vw, R.bind, idx2, atI, ixN, vB, tst, un1, truth, evO, evA, derefs, blt1, RV.w, op2, slOf, RC.fin, mulOk, h1, hm]
end K01

set_option Elab.async false
set_option linter.all false
set_option maxRecDepth 100000
set_option maxHeartbeats 8000000
namespace K01
open PySem L2 LL Mrg
abbrev body9 : IB := (.cons (.asg 8 (.comp (.var 7) (.nm 7) (.seq (.var 8)) (.cmp .ne (.var 7) (.lst .nil)) true)) (.cons (.asg 10 (.comp (.idx (.var 7) (.int 0)) (.nm 7) (.seq (.var 8)) (.call 6 (.cons (.var 8) (.cons (.idx (.var 7) (.int 0)) .nil))) true)) (.cons (.ifS (.orE (.cmp .eq (.var 10) (.lst .nil)) (.cmp .ne (.idx (.var 10) (.int 0)) (.var 9))) (.cons (.ret (.bl false)) .nil) .nil) (.cons (.asg 8 (.comp (.ifE (.cmp .eq (.idx (.var 7) (.int 0)) (.var 9)) (.sfrom (.var 7) (.int 1)) (.var 7)) (.nm 7) (.seq (.var 8)) .non false)) .nil))))
/-- the law's own run over the rows -/
theorem lrun_ok {k : Nat} {ns : List Int} {a2 a3 a4 a5 a6 : Option Sl} {S : List SO} {o7 : Option W} : ∀ (rest : List Str) {L : List (List Str)} {o9 o10 : Option Sl}, Go (L.filter ne) rest →
    ∃ (o8 o9' o10' : Option Sl), forL (fStep (callN T (k + 1)) (.nm 9) body9) (sW rest) ⟨Ev ns a2 a3 a4 a5 a6 (o7.map .val) (some (.own (L.map lW))) o9 o10, S⟩ = .nx ⟨Ev ns a2 a3 a4 a5 a6 (o7.map .val) o8 o9' o10', S⟩
  | [], L, o9, o10, g => ⟨_, _, _, rfl⟩
  | x :: rest, L, o9, o10, g => by
    obtain ⟨xs, hf, g3⟩ := g.inv
    have hr : ∀ r ∈ L.filter ne, r ≠ [] := fun r hm z => by
      have := (List.mem_filter.mp hm).2
      rw [z] at this
      cases this
    have s0 : fStep (callN T (k + 1)) (.nm 9) body9 (.str x) ⟨Ev ns a2 a3 a4 a5 a6 (o7.map .val) (some (.own (L.map lW))) o9 o10, S⟩ =
        evSs (callN T (k + 1)) body9 ⟨Ev ns a2 a3 a4 a5 a6 (o7.map .val) (some (.own (L.map lW))) (some (.val (.str x))) o10, S⟩ := rfl
    have s1 : evS (callN T (k + 1)) (.asg 8 (.comp (.var 7) (.nm 7) (.seq (.var 8)) (.cmp .ne (.var 7) (.lst .nil)) true)) ⟨Ev ns a2 a3 a4 a5 a6 (o7.map .val) (some (.own (L.map lW))) (some (.val (.str x))) o10, S⟩ =
        .nx ⟨Ev ns a2 a3 a4 a5 a6 (o7.map .val) (some (.own ((L.filter ne).map lW))) (some (.val (.str x))) o10, S⟩ := by
      simp only [evS, ev]
      rw [lcomp_ne]
      rfl
    have s2 : evS (callN T (k + 1)) (.asg 10 (.comp (.idx (.var 7) (.int 0)) (.nm 7) (.seq (.var 8)) (.call 6 (.cons (.var 8) (.cons (.idx (.var 7) (.int 0)) .nil))) true)) ⟨Ev ns a2 a3 a4 a5 a6 (o7.map .val) (some (.own ((L.filter ne).map lW))) (some (.val (.str x))) o10, S⟩ =
        .nx ⟨Ev ns a2 a3 a4 a5 a6 (o7.map .val) (some (.val (.lst ((L.filter ne).map lW)))) (some (.val (.str x))) (some (.own (sW (x :: xs)))), S⟩ := by
      simp only [evS, ev]
      rw [lcomp_free hr, hf]
      rfl
    have e1 : cmp2 .eq (.lst (.str x :: xs.map W.str)) (.lst []) = some false := eq_free (x :: xs)
    have e2 : cmp2 .ne (.str x) (.str x) = some false := by rw [ne_s]; simp
    have hz : szOk 0 = true := by decide
    have s3 : evS (callN T (k + 1)) (.ifS (.orE (.cmp .eq (.var 10) (.lst .nil)) (.cmp .ne (.idx (.var 10) (.int 0)) (.var 9))) (.cons (.ret (.bl false)) .nil) .nil) ⟨Ev ns a2 a3 a4 a5 a6 (o7.map .val) (some (.val (.lst ((L.filter ne).map lW)))) (some (.val (.str x))) (some (.own (sW (x :: xs)))), S⟩ =
        .nx ⟨Ev ns a2 a3 a4 a5 a6 (o7.map .val) (some (.val (.lst ((L.filter ne).map lW)))) (some (.val (.str x))) (some (.own (sW (x :: xs)))), S⟩ := by
      simp [evSs, evS, RS.then, RS.of, evT, ev, evB, EB.of, entryE, bin1, opd, deref, derefV, vw, R.bind, idx2, atI, ixN, vB, tst, un1, truth, evO, evA, derefs, blt1, RV.w, op2, slOf, RC.fin, mulOk, hz, e1, e2]
    have s4 : evS (callN T (k + 1)) (.asg 8 (.comp (.ifE (.cmp .eq (.idx (.var 7) (.int 0)) (.var 9)) (.sfrom (.var 7) (.int 1)) (.var 7)) (.nm 7) (.seq (.var 8)) .non false)) ⟨Ev ns a2 a3 a4 a5 a6 (o7.map .val) (some (.val (.lst ((L.filter ne).map lW)))) (some (.val (.str x))) (some (.own (sW (x :: xs)))), S⟩ =
        .nx ⟨Ev ns a2 a3 a4 a5 a6 (o7.map .val) (some (.own (((L.filter ne).map (drp x)).map lW))) (some (.val (.str x))) (some (.own (sW (x :: xs)))), S⟩ := by
      simp only [evS, ev]
      rw [lcomp_drp hr]
      rfl
    have st : fStep (callN T (k + 1)) (.nm 9) body9 (.str x) ⟨Ev ns a2 a3 a4 a5 a6 (o7.map .val) (some (.own (L.map lW))) o9 o10, S⟩ =
        .nx ⟨Ev ns a2 a3 a4 a5 a6 (o7.map .val) (some (.own (((L.filter ne).map (drp x)).map lW))) (some (.val (.str x))) (some (.own (sW (x :: xs)))), S⟩ := by
      rw [s0]
      simp only [evSs, s1, s2, s3, s4, RS.then]
    obtain ⟨o8, o9', o10', e⟩ := lrun_ok (o7 := o7) (S := S) (a2 := a2) (a3 := a3) (a4 := a4) (a5 := a5) (a6 := a6) (ns := ns) (k := k) rest (L := (L.filter ne).map (drp x)) (o9 := some (.val (.str x))) (o10 := some (.own (sW (x :: xs)))) g3
    refine ⟨o8, o9', o10', ?_⟩
    show forL _ (.str x :: sW rest) _ = _
    rw [forL, st]
    exact e
/-- the names of all rows -/
theorem names_ok {C : CT} {ns : List Int} {a2 a3 a4 a5 a8 a10 : Option Sl} {S : List SO} : ∀ (rs : List (List Str)) (nm : List Str) (o7 : Option W), nm.Nodup → (∀ r ∈ rs, r.Nodup ∧ r.length ≤ 12) → nm.length + 12 * rs.length ≤ 1000 →
    ∃ (o7' : Option W) (nm' : List Str), forL (fStep C (.nm 7) (.cons (.asg 6 (.bin .add (.var 6) (.comp (.var 9) (.nm 9) (.seq (.var 7)) (.cmp .nin (.var 9) (.var 6)) true))) .nil)) (rs.map tW) ⟨Ev ns a2 a3 a4 a5 (some (.own (sW nm))) (o7.map .val) a8 none a10, S⟩ =
      .nx ⟨Ev ns a2 a3 a4 a5 (some (.own (sW nm'))) (o7'.map .val) a8 none a10, S⟩ ∧ nm'.Nodup ∧ ∀ x, x ∈ nm' ↔ x ∈ nm ∨ ∃ r ∈ rs, x ∈ r
  | [], nm, o7, hn, _, _ => ⟨o7, nm, rfl, hn, by simp⟩
  | r :: rs, nm, o7, hn, hr, hl => by
    obtain ⟨r1, r2⟩ := hr r List.mem_cons_self
    have hfl : (r.filter fun x => !decide (x ∈ nm)).length ≤ 12 := Nat.le_trans (List.length_filter_le _ _) r2
    rw [List.length_cons] at hl
    have hz : szOk (nm.length + (r.filter fun x => !decide (x ∈ nm)).length) = true := decide_eq_true (Nat.le_trans (show _ ≤ 1000 by omega) (by decide))
    have hc := lcomp_new (C := C) (ns := ns) (a2 := a2) (a3 := a3) (a4 := a4) (a5 := a5) (a8 := a8) (a10 := a10) (S := S) (r := r) (nm := nm)
    have st : fStep C (.nm 7) (.cons (.asg 6 (.bin .add (.var 6) (.comp (.var 9) (.nm 9) (.seq (.var 7)) (.cmp .nin (.var 9) (.var 6)) true))) .nil) (tW r) ⟨Ev ns a2 a3 a4 a5 (some (.own (sW nm))) (o7.map .val) a8 none a10, S⟩ =
        .nx ⟨Ev ns a2 a3 a4 a5 (some (.own (sW (nm ++ r.filter fun x => !decide (x ∈ nm))))) (some (.val (tW r))) a8 none a10, S⟩ := by
      have s0 : fStep C (.nm 7) (.cons (.asg 6 (.bin .add (.var 6) (.comp (.var 9) (.nm 9) (.seq (.var 7)) (.cmp .nin (.var 9) (.var 6)) true))) .nil) (tW r) ⟨Ev ns a2 a3 a4 a5 (some (.own (sW nm))) (o7.map .val) a8 none a10, S⟩ =
          evSs C (.cons (.asg 6 (.bin .add (.var 6) (.comp (.var 9) (.nm 9) (.seq (.var 7)) (.cmp .nin (.var 9) (.var 6)) true))) .nil) ⟨Ev ns a2 a3 a4 a5 (some (.own (sW nm))) (some (.val (tW r))) a8 none a10, S⟩ := rfl
      have s1 : (evB C (.bin .add (.var 6) (.comp (.var 9) (.nm 9) (.seq (.var 7)) (.cmp .nin (.var 9) (.var 6)) true))).v ⟨Ev ns a2 a3 a4 a5 (some (.own (sW nm))) (some (.val (tW r))) a8 none a10, S⟩ =
          .ok (.f (sW (nm ++ r.filter fun x => !decide (x ∈ nm)))) ⟨Ev ns a2 a3 a4 a5 (some (.own (sW nm))) (some (.val (tW r))) a8 none a10, S⟩ := by
        rw [evB]
        simp only [EB.of, bin1]
        have h1 : opd (.var 6) (evB C (.var 6)).v ⟨Ev ns a2 a3 a4 a5 (some (.own (sW nm))) (some (.val (tW r))) a8 none a10, S⟩ = .ok (.b 6) ⟨Ev ns a2 a3 a4 a5 (some (.own (sW nm))) (some (.val (tW r))) a8 none a10, S⟩ := by simp [opd]
        have h2 : opd (.comp (.var 9) (.nm 9) (.seq (.var 7)) (.cmp .nin (.var 9) (.var 6)) true) (evB C (.comp (.var 9) (.nm 9) (.seq (.var 7)) (.cmp .nin (.var 9) (.var 6)) true)).v ⟨Ev ns a2 a3 a4 a5 (some (.own (sW nm))) (some (.val (tW r))) a8 none a10, S⟩ =
            .ok (.v (lW (r.filter fun x => !decide (x ∈ nm)))) ⟨Ev ns a2 a3 a4 a5 (some (.own (sW nm))) (some (.val (tW r))) a8 none a10, S⟩ := by
          simp only [opd, hc]
          rfl
        rw [h1]
        simp only [R.bind, h2, derefV, deref]
        simp [vw, op2, hz]
      rw [s0]
      simp only [evSs, evS, ev, s1, RS.of, RS.then, slOf]
      rfl
    obtain ⟨o7', nm', e, h1, h2⟩ := names_ok (C := C) (ns := ns) (a2 := a2) (a3 := a3) (a4 := a4) (a5 := a5) (a8 := a8) (a10 := a10) (S := S) rs (nm ++ r.filter fun x => !decide (x ∈ nm)) (some (tW r))
      (List.nodup_append.mpr ⟨hn, r1.sublist List.filter_sublist, fun x hx y hy e => by
        have := (List.mem_filter.mp hy).2
        rw [← e] at this
        simp [hx] at this⟩) (fun r' h => hr r' (List.mem_cons_of_mem _ h)) (by rw [List.length_append]; omega)
    refine ⟨o7', nm', ?_, h1, fun x => ?_⟩
    · rw [List.map_cons, forL, st]
      exact e
    · rw [h2, List.mem_append, List.mem_filter]
      constructor
      · rintro ((h | h) | ⟨r', h, h'⟩)
        · exact .inl h
        · exact .inr ⟨r, List.mem_cons_self, h.1⟩
        · exact .inr ⟨r', List.mem_cons_of_mem _ h, h'⟩
      · rintro (h | ⟨r', h, h'⟩)
        · exact .inl (.inl h)
        · rcases List.mem_cons.mp h with e | h
          · subst e
            by_cases hx : x ∈ nm
            · exact .inl (.inl hx)
            · exact .inl (.inr ⟨h', by simp [hx]⟩)
          · exact .inr ⟨r', h, h'⟩
end K01

set_option Elab.async false
set_option linter.all false
set_option maxRecDepth 100000
set_option maxHeartbeats 8000000
namespace K01
open PySem L2 LL Mrg
abbrev C9 : CT := callN T 9
abbrev body4 : IB := (.cons (.asg 3 (.bin .add (.var 3) (.tup (.cons (.call 4 (.cons (.var 1) (.cons (.lst (.cons (.call 7 (.cons (.var 1) (.cons (.var 2) .nil))) (.cons (.call 7 (.cons (.var 1) (.cons (.var 2) .nil))) (.cons (.tup .nil) .nil)))) .nil))) .nil)))) .nil)
/-- one more row -/
theorem row_step {ns : List Int} {a2 a4 : Option Sl} {S : List SO} {ord : List Str} {L : List (List Str)} {x : W} (h2 : a2 = some (.own (sW ord)) ∨ a2 = some (.val (lW ord))) (hS : IsRow ns S) (ho : ord.length ≤ 12) (hL : L.length ≤ 10) :
    ∃ r S', fStep C9 (.nm 4) body4 x ⟨Ev ns a2 (some (.val (.tup (L.map tW)))) a4 none none none none none none, S⟩ = .nx ⟨Ev ns (some (.val (lW ord))) (some (.val (.tup ((L ++ [r]).map tW)))) (some (.val x)) none none none none none none, S'⟩ ∧ IsRow ns S' ∧ r.Sublist ord := by
  obtain ⟨y1, S1, e1, h1, q1⟩ := part_ok (k := 7) hS ho
  obtain ⟨y2, S2, e2, h2', q2⟩ := part_ok (k := 7) h1 ho
  obtain ⟨w, S3, e3, h3, q3⟩ := pick_ok (k := 7) (ws := [tW y1, tW y2, .tup []]) h2' (by simp) (by simp)
  have e1' : callN T 9 7 [.ref 0, lW ord] S = .ok (.v (tW y1)) S1 := e1
  have e2' : callN T 9 7 [.ref 0, lW ord] S1 = .ok (.v (tW y2)) S2 := e2
  have e3' : callN T 9 4 [.ref 0, .lst [tW y1, tW y2, .tup []]] S2 = .ok (.v w) S3 := e3
  have hr : ∃ r, w = tW r ∧ r.Sublist ord := by
    simp only [List.mem_cons, List.not_mem_nil, or_false] at q3
    rcases q3 with q | q | q
    · exact ⟨y1, q, q1⟩
    · exact ⟨y2, q, q2⟩
    · exact ⟨[], q, List.nil_sublist _⟩
  obtain ⟨r, rfl, hr⟩ := hr
  refine ⟨r, S3, ?_, h3, hr⟩
  have hz0 : szOk 0 = true := by decide
  have hz1 : szOk 1 = true := by decide
  have hz3 : szOk 3 = true := by decide
  have hz : szOk (L.length + 1) = true := decide_eq_true (Nat.le_trans (show L.length + 1 ≤ 11 by omega) (by decide))
  rcases h2 with rfl | rfl
  · simp [fStep, setT, evSs, evS, RS.then, RS.of, evT, ev, evB, EB.of, entryE, bin1, opd, deref, derefV, vw, R.bind, idx2, atI, ixN, cmp2, vB, tst, un1, truth, evO, evA, derefs, blt1, RV.w, op2, slOf, RC.fin, mulOk, e1', e2', e3', hz0, hz1, hz3, hz]
  · simp [fStep, setT, evSs, evS, RS.then, RS.of, evT, ev, evB, EB.of, entryE, bin1, opd, deref, derefV, vw, R.bind, idx2, atI, ixN, cmp2, vB, tst, un1, truth, evO, evA, derefs, blt1, RV.w, op2, slOf, RC.fin, mulOk, e1', e2', e3', hz0, hz1, hz3, hz]
theorem rows_ok {ns : List Int} {ord : List Str} (ho : ord.length ≤ 12) : ∀ (xs : List W) {a2 a4 : Option Sl} {S : List SO} {L : List (List Str)}, (a2 = some (.own (sW ord)) ∨ a2 = some (.val (lW ord))) → IsRow ns S → L.length + xs.length ≤ 10 → (∀ r ∈ L, r.Sublist ord) →
    ∃ (a2' a4' : Option Sl) (S' : List SO) (L' : List (List Str)), forL (fStep C9 (.nm 4) body4) xs ⟨Ev ns a2 (some (.val (.tup (L.map tW)))) a4 none none none none none none, S⟩ = .nx ⟨Ev ns a2' (some (.val (.tup (L'.map tW)))) a4' none none none none none none, S'⟩ ∧ L'.length ≤ 10 ∧ ∀ r ∈ L', r.Sublist ord
  | [], a2, a4, S, L, h2, hS, hl, hr => ⟨_, _, _, L, rfl, by simpa using hl, hr⟩
  | x :: xs, a2, a4, S, L, h2, hS, hl, hr => by
    rw [List.length_cons] at hl
    obtain ⟨r, S1, e, h1, q⟩ := row_step (x := x) (a4 := a4) h2 hS ho (L := L) (by omega)
    obtain ⟨a2', a4', S', L', e', q1, q2⟩ := rows_ok ho xs (a2 := some (.val (lW ord))) (a4 := some (.val x)) (S := S1) (L := L ++ [r]) (.inr rfl) h1 (by rw [List.length_append]; simp; omega) (fun r' h => by
      rcases List.mem_append.mp h with h | h
      · exact hr r' h
      · rw [List.mem_singleton.mp h]; exact q)
    exact ⟨a2', a4', S', L', by rw [forL, e]; exact e', q1, q2⟩
theorem tot_le {n : Nat} : ∀ (L : List (List Str)), (∀ r ∈ L, r.length ≤ n) → tot L ≤ n * L.length
  | [], _ => by simp [tot]
  | r :: L, h => by
    have ih := tot_le L fun r' hr => h r' (List.mem_cons_of_mem _ hr)
    have h1 := h r List.mem_cons_self
    have e : tot (r :: L) = r.length + tot L := rfl
    rw [e, List.length_cons, Nat.mul_succ]
    omega
theorem weqs_str (xs ys : List Str) : cmp2 .eq (tW xs) (tW ys) = some (decide (xs = ys)) := by
  have h1 := okd_t 59 xs
  have h2 := okd_t 59 ys
  have h3 := weqs_s xs ys
  simp only [cmp2, h1, h2, weq, h3, Bool.and_self, if_true]
theorem ne_srt (xs ys : List Str) : cmp2 .ne (lW xs) (lW ys) = some (!decide (xs = ys)) := by
  have h1 := okd_l 59 xs
  have h2 := okd_l 59 ys
  have h3 := weqs_s xs ys
  simp only [cmp2, h1, h2, weq, h3, Bool.and_self, if_true]
theorem holds (ns : List Int) : ∃ S, callN T 10 8 [.scr ns] [] = .ok (.v (.bl true)) S := by
  rw [callN_eq (k := 9) (fn := d8.fn) rfl rfl]
  have he : entryE d8.fn.ns [.scr ns] = [some (.val (.scr ns)), none, none, none, none, none, none, none, none, none, none] := by simp [d8, entryE]
  rw [he]
  have hb : d8.fn.body = b8 := rfl
  rw [hb]
  have hz0 : szOk 0 = true := by decide
  have hz1 : szOk 1 = true := by decide
  have hz4 : szOk 4 = true := by decide
  have row0 : IsRow ns [.lst [.scr ns, .int 0, .int 0, .int 0]] := ⟨0, 0, 0, by omega, rfl⟩
  -- the row
  have s1 : evS C9 (.asgR 1 (.lst (.cons (.var 0) (.cons (.int 0) (.cons (.int 0) (.cons (.int 0) .nil)))))) ⟨[some (.val (.scr ns)), none, none, none, none, none, none, none, none, none, none], []⟩ =
      .nx ⟨Ev ns none none none none none none none none none, [.lst [.scr ns, .int 0, .int 0, .int 0]]⟩ := by simp [evSs, evS, RS.then, RS.of, evT, ev, evB, EB.of, entryE, bin1, opd, deref, derefV, vw, R.bind, idx2, atI, ixN, cmp2, vB, tst, un1, truth, evO, evA, derefs, blt1, RV.w, op2, slOf, RC.fin, mulOk, hz4]
  -- the order
  obtain ⟨xs, S1, e1, h1, nd, xl⟩ := words_ok (k := 7) row0
  obtain ⟨v, S2, e2, h2, v0, v1⟩ := taken_ok (k := 8) h1 (m := 13) (by omega) (by omega)
  have e1' : callN T 9 5 [.ref 0] [.lst [.scr ns, .int 0, .int 0, .int 0]] = .ok (.f (sW xs)) S1 := e1
  have e2' : callN T 9 3 [.ref 0, .int 13] S1 = .ok (.v (.int v)) S2 := e2
  obtain ⟨t, rfl⟩ := Int.eq_ofNat_of_zero_le v0
  have ec : cutW (sW xs) none (some (t : Int)) = sW (xs.take t) := by
    have h1 : HT.sIx (sW xs).length (sW xs).length (some (t : Int)) = t := by
      have h3 : t ≤ (sW xs).length := by rw [List.length_map]; omega
      simp [HT.sIx]
      rw [if_neg (by omega)]
      omega
    have h2 : HT.sIx (sW xs).length 0 none = 0 := rfl
    unfold cutW
    rw [h1, h2, List.drop_zero, Nat.sub_zero]
    exact (List.map_take).symm
  have s2 : evS C9 (.asg 2 (.upto (.call 5 (.cons (.var 1) .nil)) (.call 3 (.cons (.var 1) (.cons (.int 13) .nil))))) ⟨Ev ns none none none none none none none none none, [.lst [.scr ns, .int 0, .int 0, .int 0]]⟩ =
      .nx ⟨Ev ns (some (.own (sW (xs.take t)))) none none none none none none none none, S2⟩ := by
    simp [evSs, evS, RS.then, RS.of, evT, ev, evB, EB.of, entryE, bin1, opd, deref, derefV, vw, R.bind, idx2, atI, ixN, cmp2, vB, tst, un1, truth, evO, evA, derefs, blt1, RV.w, op2, slOf, RC.fin, mulOk, e1', e2', toI, slc2, ec, -List.map_take]
  obtain ⟨ord, hord⟩ : ∃ ord, ord = xs.take t := ⟨_, rfl⟩
  rw [← hord] at s2
  have ondp : ord.Nodup := by rw [hord]; exact nd.sublist (List.take_sublist _ _)
  have olen : ord.length ≤ 12 := by rw [hord, List.length_take]; omega
  have s3 : evS C9 (.asg 3 (.tup .nil)) ⟨Ev ns (some (.own (sW ord))) none none none none none none none none, S2⟩ = .nx ⟨Ev ns (some (.own (sW ord))) (some (.val (.tup (([] : List (List Str)).map tW)))) none none none none none none none, S2⟩ := by
    simp [evSs, evS, RS.then, RS.of, evT, ev, evB, EB.of, entryE, bin1, opd, deref, derefV, vw, R.bind, idx2, atI, ixN, cmp2, vB, tst, un1, truth, evO, evA, derefs, blt1, RV.w, op2, slOf, RC.fin, mulOk, hz0]
  -- the rows
  obtain ⟨u, S3, e3, h3, u0, u1⟩ := taken_ok (k := 8) h2 (m := 10) (by omega) (by omega)
  have e3' : callN T 9 3 [.ref 0, .int 10] S2 = .ok (.v (.int u)) S3 := e3
  obtain ⟨m, rfl⟩ := Int.eq_ofNat_of_zero_le u0
  have rl : (rngW (m : Int)).length = m := by simp [rngW]
  obtain ⟨a2', a4', S4, L, e4, l10, lsub⟩ := rows_ok (ns := ns) olen (rngW (m : Int)) (a4 := none) (L := []) (.inl rfl) h3 (by rw [rl]; simp; omega) (fun r h => by cases h)
  have s4 : evS C9 (.forS (.nm 4) (.rng (.call 3 (.cons (.var 1) (.cons (.int 10) .nil)))) body4) ⟨Ev ns (some (.own (sW ord))) (some (.val (.tup (([] : List (List Str)).map tW)))) none none none none none none none, S2⟩ =
      .nx ⟨Ev ns a2' (some (.val (.tup (L.map tW)))) a4' none none none none none none, S4⟩ := by
    have hf := forS_eq (C := C9) (g := .nm 4) (src := .rng (.call 3 (.cons (.var 1) (.cons (.int 10) .nil)))) (x := body4) (st := ⟨Ev ns (some (.own (sW ord))) (some (.val (.tup (([] : List (List Str)).map tW)))) none none none none none none none, S2⟩)
    have hrg : rngOk (m : Int) = true := by
      have : szOk (m : Int).toNat = true := decide_eq_true (Nat.le_trans (show (m : Int).toNat ≤ 10 by omega) (by decide))
      simp only [rngOk, Bool.and_eq_true, decide_eq_true_eq]
      exact ⟨⟨by omega, by omega⟩, this⟩
    have hi : evI C9 (.rng (.call 3 (.cons (.var 1) (.cons (.int 10) .nil)))) ⟨Ev ns (some (.own (sW ord))) (some (.val (.tup (([] : List (List Str)).map tW)))) none none none none none none none, S2⟩ = .ok (rngW (m : Int)) ⟨Ev ns (some (.own (sW ord))) (some (.val (.tup (([] : List (List Str)).map tW)))) none none none none none none none, S3⟩ := by
      simp [evI, evSs, evS, RS.then, RS.of, evT, ev, evB, EB.of, entryE, bin1, opd, deref, derefV, vw, R.bind, idx2, atI, ixN, cmp2, vB, tst, un1, truth, evO, evA, derefs, blt1, RV.w, op2, slOf, RC.fin, mulOk, e3', hrg]
    rw [hi, RS.of, e4] at hf
    exact hf
  -- merge
  have rnd : ∀ r ∈ L, r.Nodup ∧ r.length ≤ 12 := fun r h => ⟨ondp.sublist (lsub r h), Nat.le_trans (lsub r h).length_le olen⟩
  have inord : InOrd ord (L.filter ne) := fun r h => by
    obtain ⟨h1, h2⟩ := List.mem_filter.mp h
    exact ⟨(fun z => by rw [z] at h2; cases h2), lsub r h1⟩
  have ht : tot (L.filter ne) ≤ 120 := by
    rw [tot_filter]
    have := tot_le (n := 12) L fun r h => (rnd r h).2
    omega
  obtain ⟨out, g, ol⟩ := go_ord ondp 120 (L.filter ne) ht inord
  obtain ⟨gn, gm⟩ := go_mem g fun r h => (rnd r (List.mem_filter.mp h).1).1
  have e5 : callN T 9 2 [.tup (L.map tW)] S4 = .ok (.v (tW out)) S4 := merge_ok (k := 6) (fun r h => ⟨(rnd r h).1, Nat.le_trans (rnd r h).2 (by omega)⟩) g (by omega)
  have s5 : evS C9 (.asg 5 (.call 2 (.cons (.var 3) .nil))) ⟨Ev ns a2' (some (.val (.tup (L.map tW)))) a4' none none none none none none, S4⟩ = .nx ⟨Ev ns a2' (some (.val (.tup (L.map tW)))) a4' (some (.val (tW out))) none none none none none, S4⟩ := by
    simp [evSs, evS, RS.then, RS.of, evT, ev, evB, EB.of, entryE, bin1, opd, deref, derefV, vw, R.bind, idx2, atI, ixN, cmp2, vB, tst, un1, truth, evO, evA, derefs, blt1, RV.w, op2, slOf, RC.fin, mulOk, e5]
  have s6 : evS C9 (.asg 6 (.lst .nil)) ⟨Ev ns a2' (some (.val (.tup (L.map tW)))) a4' (some (.val (tW out))) none none none none none, S4⟩ = .nx ⟨Ev ns a2' (some (.val (.tup (L.map tW)))) a4' (some (.val (tW out))) (some (.own (sW []))) none none none none, S4⟩ := by
    simp [evSs, evS, RS.then, RS.of, evT, ev, evB, EB.of, entryE, bin1, opd, deref, derefV, vw, R.bind, idx2, atI, ixN, cmp2, vB, tst, un1, truth, evO, evA, derefs, blt1, RV.w, op2, slOf, RC.fin, mulOk, hz0]
  -- the names
  obtain ⟨o7, nm, e7, nn, nmem⟩ := names_ok (C := C9) (ns := ns) (a2 := a2') (a3 := some (.val (.tup (L.map tW)))) (a4 := a4') (a5 := some (.val (tW out))) (a8 := none) (a10 := none) (S := S4) L [] none List.nodup_nil rnd (by simp; omega)
  have s7 : evS C9 (.forS (.nm 7) (.seq (.var 3)) (.cons (.asg 6 (.bin .add (.var 6) (.comp (.var 9) (.nm 9) (.seq (.var 7)) (.cmp .nin (.var 9) (.var 6)) true))) .nil)) ⟨Ev ns a2' (some (.val (.tup (L.map tW)))) a4' (some (.val (tW out))) (some (.own (sW []))) none none none none, S4⟩ =
      .nx ⟨Ev ns a2' (some (.val (.tup (L.map tW)))) a4' (some (.val (tW out))) (some (.own (sW nm))) (o7.map .val) none none none, S4⟩ := by
    have hf := forS_eq (C := C9) (g := .nm 7) (src := .seq (.var 3)) (x := (.cons (.asg 6 (.bin .add (.var 6) (.comp (.var 9) (.nm 9) (.seq (.var 7)) (.cmp .nin (.var 9) (.var 6)) true))) .nil)) (st := ⟨Ev ns a2' (some (.val (.tup (L.map tW)))) a4' (some (.val (tW out))) (some (.own (sW []))) none none none none, S4⟩)
    have hi : evI C9 (.seq (.var 3)) ⟨Ev ns a2' (some (.val (.tup (L.map tW)))) a4' (some (.val (tW out))) (some (.own (sW []))) none none none none, S4⟩ = .ok (L.map tW) ⟨Ev ns a2' (some (.val (.tup (L.map tW)))) a4' (some (.val (tW out))) (some (.own (sW []))) none none none none, S4⟩ := by
      simp [evI, evSs, evS, RS.then, RS.of, evT, ev, evB, EB.of, entryE, bin1, opd, deref, derefV, vw, R.bind, idx2, atI, ixN, cmp2, vB, tst, un1, truth, evO, evA, derefs, blt1, RV.w, op2, slOf, RC.fin, mulOk, items]
    rw [hi, RS.of] at hf
    exact hf.trans e7
  -- the same words
  have perm : out.Perm nm := (List.perm_ext_iff_of_nodup gn nn).mpr fun x => by
    rw [gm, nmem]
    constructor
    · rintro ⟨r, h, h'⟩
      exact .inr ⟨r, (List.mem_filter.mp h).1, h'⟩
    · rintro (h | ⟨r, h, h'⟩)
      · cases h
      · refine ⟨r, List.mem_filter.mpr ⟨h, ?_⟩, h'⟩
        cases r with
        | nil => cases h'
        | cons _ _ => rfl
  have es := srt_eq.mpr perm
  have w1 := strsW_s out
  have w2 := strsW_s nm
  have w3 := ne_srt (srtS out) (srtS nm)
  rw [es] at w3
  simp only [decide_true, Bool.not_true] at w3
  have s8 : evS C9 (.ifS (.orE (.notE (.isT (.var 5) .tuple)) (.cmp .ne (.blt .sorted (.cons (.var 5) .nil)) (.blt .sorted (.cons (.var 6) .nil)))) (.cons (.ret (.bl false)) .nil) .nil) ⟨Ev ns a2' (some (.val (.tup (L.map tW)))) a4' (some (.val (tW out))) (some (.own (sW nm))) (o7.map .val) none none none, S4⟩ =
      .nx ⟨Ev ns a2' (some (.val (.tup (L.map tW)))) a4' (some (.val (tW out))) (some (.own (sW nm))) (o7.map .val) none none none, S4⟩ := by
    simp [evSs, evS, RS.then, RS.of, evT, ev, evB, EB.of, entryE, bin1, opd, deref, derefV, vw, R.bind, idx2, atI, ixN, vB, tst, un1, truth, evO, evA, derefs, blt1, RV.w, op2, slOf, RC.fin, mulOk, isTn, items, w1, w2, es, w3]
  have s9 : evS C9 (.asg 8 (.comp (.blt .list (.cons (.var 7) .nil)) (.nm 7) (.seq (.var 3)) .non false)) ⟨Ev ns a2' (some (.val (.tup (L.map tW)))) a4' (some (.val (tW out))) (some (.own (sW nm))) (o7.map .val) none none none, S4⟩ =
      .nx ⟨Ev ns a2' (some (.val (.tup (L.map tW)))) a4' (some (.val (tW out))) (some (.own (sW nm))) (o7.map .val) (some (.own (L.map lW))) none none, S4⟩ := by
    simp only [evS, ev]
    rw [lcomp_list]
    rfl
  -- the law's own run
  obtain ⟨o8, o9, o10, e10⟩ := lrun_ok (k := 8) (ns := ns) (a2 := a2') (a3 := some (.val (.tup (L.map tW)))) (a4 := a4') (a5 := some (.val (tW out))) (a6 := some (.own (sW nm))) (S := S4) (o7 := o7) out (o9 := none) (o10 := none) g
  have s10 : evS C9 (.forS (.nm 9) (.seq (.var 5)) body9) ⟨Ev ns a2' (some (.val (.tup (L.map tW)))) a4' (some (.val (tW out))) (some (.own (sW nm))) (o7.map .val) (some (.own (L.map lW))) none none, S4⟩ =
      .nx ⟨Ev ns a2' (some (.val (.tup (L.map tW)))) a4' (some (.val (tW out))) (some (.own (sW nm))) (o7.map .val) o8 o9 o10, S4⟩ := by
    have hf := forS_eq (C := C9) (g := .nm 9) (src := .seq (.var 5)) (x := body9) (st := ⟨Ev ns a2' (some (.val (.tup (L.map tW)))) a4' (some (.val (tW out))) (some (.own (sW nm))) (o7.map .val) (some (.own (L.map lW))) none none, S4⟩)
    have hi : evI C9 (.seq (.var 5)) ⟨Ev ns a2' (some (.val (.tup (L.map tW)))) a4' (some (.val (tW out))) (some (.own (sW nm))) (o7.map .val) (some (.own (L.map lW))) none none, S4⟩ = .ok (sW out) ⟨Ev ns a2' (some (.val (.tup (L.map tW)))) a4' (some (.val (tW out))) (some (.own (sW nm))) (o7.map .val) (some (.own (L.map lW))) none none, S4⟩ := by
      simp [evI, evSs, evS, RS.then, RS.of, evT, ev, evB, EB.of, entryE, bin1, opd, deref, derefV, vw, R.bind, idx2, atI, ixN, cmp2, vB, tst, un1, truth, evO, evA, derefs, blt1, RV.w, op2, slOf, RC.fin, mulOk, items]
    rw [hi, RS.of] at hf
    exact hf.trans e10
  -- merge once more
  have g2 : Go ((L ++ L.take 1 ++ [[]]).filter ne) out := by
    have : (L ++ L.take 1 ++ [[]]).filter ne = L.filter ne ++ (L.take 1).filter ne := by
      rw [List.filter_append, List.filter_append]
      simp [ne]
    rw [this]
    exact go_more g fun r h => List.mem_filter.mpr ⟨List.mem_of_mem_take (List.mem_filter.mp h).1, (List.mem_filter.mp h).2⟩
  have e11 : callN T 9 2 [.tup ((L ++ L.take 1 ++ [[]]).map tW)] S4 = .ok (.v (tW out)) S4 := merge_ok (k := 6) (fun r h => by
    rcases List.mem_append.mp h with h | h
    · rcases List.mem_append.mp h with h | h
      · exact ⟨(rnd r h).1, Nat.le_trans (rnd r h).2 (by omega)⟩
      · have := rnd r (List.mem_of_mem_take h)
        exact ⟨this.1, Nat.le_trans this.2 (by omega)⟩
    · rw [List.mem_singleton.mp h]
      exact ⟨List.nodup_nil, Nat.zero_le _⟩) g2 (by omega)
  have e12 : callN T 9 2 [.tup ([out].map tW)] S4 = .ok (.v (tW out)) S4 := merge_ok (k := 6) (fun r h => by
    rw [List.mem_singleton.mp h]
    exact ⟨gn, by omega⟩) (go_one gn) (by omega)
  have w4 := weqs_str out out
  simp only [decide_true] at w4
  have ec2 : cutW (L.map tW) none (some 1) = (L.take 1).map tW := by
    cases L with
    | nil => rfl
    | cons a l =>
      have : HT.sIx ((a :: l).map tW).length ((a :: l).map tW).length (some 1) = 1 := by
        simp [HT.sIx]
      unfold cutW
      rw [this]
      rfl
  have z1 : szOk (L.length + (L.take 1).length) = true := decide_eq_true (Nat.le_trans (show _ ≤ 100 by have := List.length_take_le 1 L; omega) (by decide))
  have z2 : szOk (L.length + (L.take 1).length + 1) = true := decide_eq_true (Nat.le_trans (show _ ≤ 100 by have := List.length_take_le 1 L; omega) (by decide))
  have hcat : (evB C9 (.bin .add (.bin .add (.var 3) (.upto (.var 3) (.int 1))) (.tup (.cons (.tup .nil) .nil)))).v ⟨Ev ns a2' (some (.val (.tup (L.map tW)))) a4' (some (.val (tW out))) (some (.own (sW nm))) (o7.map .val) o8 o9 o10, S4⟩ =
      .ok (.v (.tup ((L ++ L.take 1 ++ [[]]).map tW))) ⟨Ev ns a2' (some (.val (.tup (L.map tW)))) a4' (some (.val (tW out))) (some (.own (sW nm))) (o7.map .val) o8 o9 o10, S4⟩ := by
    simp only [List.length_take] at z1 z2
    simp [evSs, evS, RS.then, RS.of, evT, ev, evB, EB.of, entryE, bin1, opd, deref, derefV, vw, R.bind, idx2, atI, ixN, cmp2, vB, tst, un1, truth, evO, evA, derefs, blt1, RV.w, op2, slOf, RC.fin, mulOk, toI, slc2, ec2, z1, z2, hz0, hz1, -List.map_take]
  have s11 : evS C9 (.ret (.andE (.cmp .eq (.call 2 (.cons (.bin .add (.bin .add (.var 3) (.upto (.var 3) (.int 1))) (.tup (.cons (.tup .nil) .nil))) .nil)) (.var 5)) (.cmp .eq (.call 2 (.cons (.tup (.cons (.var 5) .nil)) .nil)) (.var 5))))
      ⟨Ev ns a2' (some (.val (.tup (L.map tW)))) a4' (some (.val (tW out))) (some (.own (sW nm))) (o7.map .val) o8 o9 o10, S4⟩ = .ret (.v (.bl true)) S4 := by
    have c1 : (evB C9 (.call 2 (.cons (.bin .add (.bin .add (.var 3) (.upto (.var 3) (.int 1))) (.tup (.cons (.tup .nil) .nil))) .nil))).v ⟨Ev ns a2' (some (.val (.tup (L.map tW)))) a4' (some (.val (tW out))) (some (.own (sW nm))) (o7.map .val) o8 o9 o10, S4⟩ =
        .ok (.v (tW out)) ⟨Ev ns a2' (some (.val (.tup (L.map tW)))) a4' (some (.val (tW out))) (some (.own (sW nm))) (o7.map .val) o8 o9 o10, S4⟩ := by
      rw [evB]
      simp only [EB.of, evA, hcat, R.bind, RV.w]
      show (match callN T 9 2 _ S4 with | .ok r S => _ | .exn c fs S => _ | .bad => _) = _
      rw [e11]
    have c2 : (evB C9 (.call 2 (.cons (.tup (.cons (.var 5) .nil)) .nil))).v ⟨Ev ns a2' (some (.val (.tup (L.map tW)))) a4' (some (.val (tW out))) (some (.own (sW nm))) (o7.map .val) o8 o9 o10, S4⟩ =
        .ok (.v (tW out)) ⟨Ev ns a2' (some (.val (.tup (L.map tW)))) a4' (some (.val (tW out))) (some (.own (sW nm))) (o7.map .val) o8 o9 o10, S4⟩ := by
      have e12' : callN T 9 2 [.tup [tW out]] S4 = .ok (.v (tW out)) S4 := e12
      simp [evSs, evS, RS.then, RS.of, evT, ev, evB, EB.of, entryE, bin1, opd, deref, derefV, vw, R.bind, idx2, atI, ixN, cmp2, vB, tst, un1, truth, evO, evA, derefs, blt1, RV.w, op2, slOf, RC.fin, mulOk, hz1, e12']
    have d : ∀ e : IE, (∀ i, e ≠ .var i) → (evB C9 e).v ⟨Ev ns a2' (some (.val (.tup (L.map tW)))) a4' (some (.val (tW out))) (some (.own (sW nm))) (o7.map .val) o8 o9 o10, S4⟩ = .ok (.v (tW out)) ⟨Ev ns a2' (some (.val (.tup (L.map tW)))) a4' (some (.val (tW out))) (some (.own (sW nm))) (o7.map .val) o8 o9 o10, S4⟩ →
        (evB C9 (.cmp .eq e (.var 5))).v ⟨Ev ns a2' (some (.val (.tup (L.map tW)))) a4' (some (.val (tW out))) (some (.own (sW nm))) (o7.map .val) o8 o9 o10, S4⟩ = .ok (.v (.bl true)) ⟨Ev ns a2' (some (.val (.tup (L.map tW)))) a4' (some (.val (tW out))) (some (.own (sW nm))) (o7.map .val) o8 o9 o10, S4⟩ := fun e he h => by
      have : opd e (evB C9 e).v ⟨Ev ns a2' (some (.val (.tup (L.map tW)))) a4' (some (.val (tW out))) (some (.own (sW nm))) (o7.map .val) o8 o9 o10, S4⟩ = .ok (.v (tW out)) ⟨Ev ns a2' (some (.val (.tup (L.map tW)))) a4' (some (.val (tW out))) (some (.own (sW nm))) (o7.map .val) o8 o9 o10, S4⟩ := by
        rw [opd_eq he]
        simp only [h, R.bind, RV.w]
      rw [evB]
      simp only [EB.of, bin1, this, R.bind]
      simp [opd, derefV, deref, vw, w4, vB]
    simp only [evS, ev]
    rw [evB]
    simp only [d _ (by intro i z; cases z) c1, R.bind, d _ (by intro i z; cases z) c2, RS.of]
  refine ⟨S4, ?_⟩
  have fin : evSs C9 b8 ⟨[some (.val (.scr ns)), none, none, none, none, none, none, none, none, none, none], []⟩ = .ret (.v (.bl true)) S4 := by
    unfold b8
    simp only [evSs, s1, s2, s3, s4, s5, s6, s7, s8, s9, s10, s11, RS.then]
  show RC.fin (evSs C9 b8 _) = _
  rw [fin]
  rfl
end K01

set_option Elab.async false
set_option maxRecDepth 100000
open PySem PySem.W PyProof.Rows in
set_option maxHeartbeats 0 in
theorem PySem.Challenge.cw_livelookup_k01_whole_merge_of_hidden_ord_holds : PySem.Challenge.rw_livelookup_k01_whole_merge_of_hidden_ord.Holds := by
  w_on; o_law; k_head; (case hw => w_witness2)
  k_fill
  refine LL.law_end (l := PySem.Challenge.rw_livelookup_k01_whole_merge_of_hidden_ord) (n := 63) (k := 10) (li := 8) (D := K01.D) (dl := K01.d8) (x := "_law_script") rfl (by decide) rfl (by decide) rfl rfl rfl K01.chk (fun w h Y => PySem.W.kIn_of Y) ?F (fun K a fd F s u => ?hB) (fun ns _ => K01.holds ns)
  case hB =>
    obtain ⟨oc, od, kV, doc, pm, an, cdv, ct, osl, rfl, _⟩ := F.ex
    exact .of_eq rfl
  case F =>
    intro w mg h KX G
    refine' K01.mk KX G ?a0 ?l0 ?c0 ?k0 ?a1 ?l1 ?c1 ?k1 ?a2 ?l2 ?c2 ?k2 ?a3 ?l3 ?c3 ?k3 ?a4 ?l4 ?c4 ?k4 ?a5 ?l5 ?c5 ?k5 ?a6 ?l6 ?c6 ?k6 ?a7 ?l7 ?c7 ?k7 ?a8 ?l8 ?c8 ?k8 ?bn
    (case a0 => k_is)
    (case l0 => k_is)
    (case c0 => k_is)
    (case k0 => k_is)
    (case a1 => k_is)
    (case l1 => k_is)
    (case c1 => k_is)
    (case k1 => k_is)
    (case a2 => k_is)
    (case l2 => k_is)
    (case c2 => k_is)
    (case k2 => k_is)
    (case a3 => k_is)
    (case l3 => k_is)
    (case c3 => k_is)
    (case k3 => k_is)
    (case a4 => k_is)
    (case l4 => k_is)
    (case c4 => k_is)
    (case k4 => k_is)
    (case a5 => k_is)
    (case l5 => k_is)
    (case c5 => k_is)
    (case k5 => k_is)
    (case a6 => k_is)
    (case l6 => k_is)
    (case c6 => k_is)
    (case k6 => k_is)
    (case a7 => k_is)
    (case l7 => k_is)
    (case c7 => k_is)
    (case k7 => k_is)
    (case a8 => k_is)
    (case l8 => k_is)
    (case c8 => k_is)
    (case k8 => k_is)
    case bn =>
      intro b hb
      simp only [LL.bNames, List.mem_cons, List.not_mem_nil, or_false] at hb
      rcases hb with rfl | rfl | rfl | rfl | rfl | rfl | rfl | rfl | rfl | rfl | rfl | rfl | rfl | rfl | rfl | rfl | rfl | rfl <;> k_is
#print axioms PySem.Challenge.cw_livelookup_k01_whole_merge_of_hidden_ord_holds

