import PyProof.Rows.All
import HandS.ForMost
import HandS.ForExc
import HandS.More
import HandS.Deep
import HandS.Zip
import HandS.IsInst
import HandS.Style
import HandS.TupLe
import HandS.Wide
import HandS.Walk
import HandS.Rev
import HandS.ExcIs
import HandS.SortKw
import KE.DataMinMax
import PySem.Challenge.RW_stairrows_k01_what_stairs_are
set_option Elab.async false
set_option linter.all false
set_option maxRecDepth 100000
set_option maxHeartbeats 4000000
/- part SwBase -/
/-! Data in place of heaps: what a value stands for (Rep), what it owns (Own), a frame's slots (Fr), what code answers (Out). -/
namespace Sw
open PySem PySem.Spec PyProof.Rows L2

abbrev Sg := List (Option V)
/-- plain data: none, bools, whole numbers, texts, lists, tuples; the script; a place that was moved away -/
inductive D where
  | non | bl (b : Bool) | int (i : Int) | str (s : Str)
  | lst (xs : List D) | tup (xs : List D) | scr (ns : List Int) | hole | ex (a : Addr) | pin (a : Addr) (xs : List D)

/-- what a piece of code answers: goes on, returns, breaks, continues, raises, or nothing is said -/
inductive Out (β α : Type) where
  | nx (a : α) | rt (d : D) | bk (b : β) | ct (b : β) | exc (n : Str) | err

def Out.bind {β α γ : Type} (o : Out β α) (k : α → Out β γ) : Out β γ := match o with
  | .nx a => k a
  | .rt d => .rt d
  | .bk b => .bk b
  | .ct b => .ct b
  | .exc n => .exc n
  | .err => .err
@[simp] theorem Out.bind_nx {β α γ : Type} (a : α) (k : α → Out β γ) : (Out.nx a : Out β α).bind k = k a := id rfl
@[simp] theorem Out.bind_rt {β α γ : Type} (d : D) (k : α → Out β γ) : (Out.rt d : Out β α).bind k = .rt d := id rfl
@[simp] theorem Out.bind_bk {β α γ : Type} (d : β) (k : α → Out β γ) : (Out.bk d : Out β α).bind k = .bk d := id rfl
@[simp] theorem Out.bind_ct {β α γ : Type} (d : β) (k : α → Out β γ) : (Out.ct d : Out β α).bind k = .ct d := id rfl
@[simp] theorem Out.bind_exc {β α γ : Type} (n : Str) (k : α → Out β γ) : (Out.exc n : Out β α).bind k = .exc n := id rfl
@[simp] theorem Out.bind_err {β α γ : Type} (k : α → Out β γ) : (Out.err : Out β α).bind k = .err := id rfl

/-- what an expression answers -/
inductive Rs (α : Type) where
  | nx (a : α) | exc (n : Str) | err
def Rs.bind {α γ : Type} (o : Rs α) (k : α → Rs γ) : Rs γ := match o with
  | .nx a => k a
  | .exc n => .exc n
  | .err => .err
/-- .. and then a block -/
def Rs.to {α β γ : Type} (o : Rs α) (k : α → Out β γ) : Out β γ := match o with
  | .nx a => k a
  | .exc n => .exc n
  | .err => .err
@[simp] theorem Rs.bind_nx {α γ : Type} (a : α) (k : α → Rs γ) : (Rs.nx a).bind k = k a := id rfl
@[simp] theorem Rs.bind_exc {α γ : Type} (n : Str) (k : α → Rs γ) : (Rs.exc n : Rs α).bind k = .exc n := id rfl
@[simp] theorem Rs.bind_err {α γ : Type} (k : α → Rs γ) : (Rs.err : Rs α).bind k = .err := id rfl
@[simp] theorem Rs.to_nx {α β γ : Type} (a : α) (k : α → Out β γ) : (Rs.nx a).to k = k a := id rfl
@[simp] theorem Rs.to_exc {α β γ : Type} (n : Str) (k : α → Out β γ) : (Rs.exc n : Rs α).to k = .exc n := id rfl
@[simp] theorem Rs.to_err {α β γ : Type} (k : α → Out β γ) : (Rs.err : Rs α).to k = .err := id rfl

mutual
/-- the value v stands for d in H -/
def Rep (K : PySem.W.Frag) (H : Hp) : D → V → Prop
  | .non, v => v = .non
  | .bl b, v => v = .bl b
  | .int i, v => v = .int i
  | .str s, v => v = .str s
  | .lst ds, v => ∃ a vs, v = .ref a ∧ H a = some (.lst vs) ∧ RepL K H ds vs
  | .tup ds, v => ∃ a vs, v = .ref a ∧ H a = some (.tup vs) ∧ RepL K H ds vs
  | .scr ns, v => ∃ a, v = .ref a ∧ SqL K H a (ns.map V.int)
  | .hole, _ => True
  | .ex a, v => v = .ref a
  | .pin b ds, v => v = .ref b ∧ ∃ vs, H b = some (.lst vs) ∧ RepL K H ds vs
def RepL (K : PySem.W.Frag) (H : Hp) : List D → List V → Prop
  | [], vs => vs = []
  | d :: ds, vs => ∃ v vs', vs = v :: vs' ∧ Rep K H d v ∧ RepL K H ds vs'
end
section
variable {K : PySem.W.Frag} {H H' H0 Hs Hs' : Hp}
mutual
theorem Rep.mono (sm : Same H H') : ∀ (d : D) (v : V), Rep K H d v → Rep K H' d v
  | .non, v, h => h
  | .bl b, v, h => h
  | .int i, v, h => h
  | .str s, v, h => h
  | .lst ds, v, h => by
    unfold Rep at h ⊢
    obtain ⟨a, vs, e, ha, r⟩ := h
    exact ⟨a, vs, e, sm _ _ ha, RepL.mono sm ds vs r⟩
  | .tup ds, v, h => by
    unfold Rep at h ⊢
    obtain ⟨a, vs, e, ha, r⟩ := h
    exact ⟨a, vs, e, sm _ _ ha, RepL.mono sm ds vs r⟩
  | .scr ns, v, h => by
    unfold Rep at h ⊢
    obtain ⟨a, e, r⟩ := h
    exact ⟨a, e, sm.seq r⟩
  | .hole, v, h => by unfold Rep; trivial
  | .ex a, v, h => h
  | .pin b ds, v, h => by
    unfold Rep at h ⊢
    obtain ⟨e, vs, ha, r⟩ := h
    exact ⟨e, vs, sm _ _ ha, RepL.mono sm ds vs r⟩
theorem RepL.mono (sm : Same H H') : ∀ (ds : List D) (vs : List V), RepL K H ds vs → RepL K H' ds vs
  | [], vs, h => h
  | d :: ds, vs, h => by
    unfold RepL at h ⊢
    obtain ⟨v, vs', e, r1, r2⟩ := h
    exact ⟨v, vs', e, Rep.mono sm d v r1, RepL.mono sm ds vs' r2⟩
end
theorem RepL.len : ∀ {ds : List D} {vs : List V}, RepL K H ds vs → vs.length = ds.length
  | [], vs, h => by unfold RepL at h; rw [h]; rfl
  | d :: ds, vs, h => by
    unfold RepL at h
    obtain ⟨v, vs', e, _, r2⟩ := h
    rw [e, List.length_cons, List.length_cons, RepL.len r2]
theorem RepL.get : ∀ {ds : List D} {vs : List V} {i : Nat} {d : D}, RepL K H ds vs → ds[i]? = some d → ∃ v, vs[i]? = some v ∧ Rep K H d v
  | [], vs, i, d, h, e => by simp at e
  | d0 :: ds, vs, 0, d, h, e => by
    unfold RepL at h
    obtain ⟨v, vs', ev, r1, r2⟩ := h
    simp at e
    subst e ev
    exact ⟨v, rfl, r1⟩
  | d0 :: ds, vs, i + 1, d, h, e => by
    unfold RepL at h
    obtain ⟨v, vs', ev, r1, r2⟩ := h
    subst ev
    exact RepL.get (i := i) r2 (by simpa using e)
theorem RepL.append : ∀ {ds es : List D} {vs us : List V}, RepL K H ds vs → RepL K H es us → RepL K H (ds ++ es) (vs ++ us)
  | [], es, vs, us, h, h' => by unfold RepL at h; rw [h]; exact h'
  | d :: ds, es, vs, us, h, h' => by
    unfold RepL at h
    obtain ⟨v, vs', e, r1, r2⟩ := h
    rw [e]
    show RepL K H (d :: (ds ++ es)) (v :: (vs' ++ us))
    unfold RepL
    exact ⟨v, _, rfl, r1, RepL.append r2 h'⟩
theorem RepL.take : ∀ {ds : List D} {vs : List V} (n : Nat), RepL K H ds vs → RepL K H (ds.take n) (vs.take n)
  | ds, vs, 0, h => by simp [RepL]
  | [], vs, n + 1, h => by unfold RepL at h; rw [h]; simp [RepL]
  | d :: ds, vs, n + 1, h => by
    unfold RepL at h
    obtain ⟨v, vs', e, r1, r2⟩ := h
    rw [e]
    show RepL K H (d :: ds.take n) (v :: vs'.take n)
    unfold RepL
    exact ⟨v, _, rfl, r1, RepL.take n r2⟩
theorem RepL.drop : ∀ {ds : List D} {vs : List V} (n : Nat), RepL K H ds vs → RepL K H (ds.drop n) (vs.drop n)
  | ds, vs, 0, h => h
  | [], vs, n + 1, h => by unfold RepL at h; rw [h]; simp [RepL]
  | d :: ds, vs, n + 1, h => by
    unfold RepL at h
    obtain ⟨v, vs', e, r1, r2⟩ := h
    rw [e]
    exact RepL.drop n r2
theorem RepL.reverse : ∀ {ds : List D} {vs : List V}, RepL K H ds vs → RepL K H ds.reverse vs.reverse
  | [], vs, h => by unfold RepL at h; rw [h]; simp [RepL]
  | d :: ds, vs, h => by
    unfold RepL at h
    obtain ⟨v, vs', e, r1, r2⟩ := h
    rw [e, List.reverse_cons, List.reverse_cons]
    exact RepL.append (RepL.reverse r2) (by unfold RepL; exact ⟨v, [], rfl, r1, by unfold RepL; rfl⟩)
theorem RepL.nil : RepL K H [] [] := by unfold RepL; rfl
theorem RepL.cons {d : D} {ds : List D} {v : V} {vs : List V} (h : Rep K H d v) (r : RepL K H ds vs) : RepL K H (d :: ds) (v :: vs) := by
  unfold RepL; exact ⟨v, vs, rfl, h, r⟩
theorem RepL.set {d : D} {v : V} (h : Rep K H d v) : ∀ {ds : List D} {vs : List V} (i : Nat), RepL K H ds vs → RepL K H (ds.set i d) (vs.set i v)
  | [], vs, i, r => by unfold RepL at r; rw [r]; simp [RepL]
  | d0 :: ds, vs, 0, r => by
    unfold RepL at r
    obtain ⟨w, vs', e, r1, r2⟩ := r
    rw [e]
    exact RepL.cons h r2
  | d0 :: ds, vs, i + 1, r => by
    unfold RepL at r
    obtain ⟨w, vs', e, r1, r2⟩ := r
    rw [e]
    exact RepL.cons r1 (RepL.set h i r2)
theorem RepL.ints : ∀ {ns : List Int} {vs : List V}, RepL K H (ns.map D.int) vs ↔ vs = ns.map V.int
  | [], vs => by simp [RepL]
  | n :: ns, vs => by
    constructor
    · intro h
      rw [List.map_cons] at h
      unfold RepL at h
      obtain ⟨v, vs', e, r1, r2⟩ := h
      unfold Rep at r1
      rw [e, r1, RepL.ints.mp r2, List.map_cons]
    · intro h
      rw [h, List.map_cons, List.map_cons]
      exact RepL.cons (by unfold Rep; rfl) (RepL.ints.mpr rfl)
end

/-! ### what is owned -/
abbrev emp : Hp := fun _ => none
theorem same_emp (H : Hp) : Same emp H := fun _ _ h => by cases h
def AllF (P : D → V → List Addr → Prop) : List D → List V → List Addr → Prop
  | [], vs, F => vs = [] ∧ F = []
  | d :: ds, vs, F => ∃ v vs' F1 F2, vs = v :: vs' ∧ P d v F1 ∧ AllF P ds vs' F2 ∧ F = F1 ++ F2
/-- v stands for d; n levels of it are objects at F, which nothing else knows; below, it is shared (in Hs) -/
def Own (K : PySem.W.Frag) (Hs H : Hp) : Nat → D → V → List Addr → Prop
  | 0, d, v, F => Rep K Hs d v ∧ F = []
  | n + 1, .lst ds, v, F => ∃ a vs F', v = .ref a ∧ H a = some (.lst vs) ∧ AllF (Own K Hs H n) ds vs F' ∧ F = a :: F'
  | n + 1, .tup ds, v, F => ∃ a vs F', v = .ref a ∧ H a = some (.tup vs) ∧ AllF (Own K Hs H n) ds vs F' ∧ F = a :: F'
  | n + 1, .non, v, F => v = .non ∧ F = []
  | n + 1, .bl b, v, F => v = .bl b ∧ F = []
  | n + 1, .int i, v, F => v = .int i ∧ F = []
  | n + 1, .str s, v, F => v = .str s ∧ F = []
  | n + 1, .scr ns, v, F => Rep K Hs (.scr ns) v ∧ F = []
  | n + 1, .hole, v, F => F = []
  | n + 1, .ex a, v, F => v = .ref a ∧ F = []
  | n + 1, .pin b ds, v, F => ∃ vs F', v = .ref b ∧ H b = some (.lst vs) ∧ AllF (Own K Hs H n) ds vs F' ∧ F = b :: F'
section
variable {P P' : D → V → List Addr → Prop}
theorem AllF.imp (h : ∀ d v F, P d v F → P' d v F) : ∀ {ds : List D} {vs : List V} {F : List Addr}, AllF P ds vs F → AllF P' ds vs F
  | [], _, _, x => x
  | d :: ds, _, _, ⟨v, vs', F1, F2, e, p, r, eF⟩ => ⟨v, vs', F1, F2, e, h _ _ _ p, AllF.imp h r, eF⟩
/-- as imp, where the step may lean on what is at the part's own places -/
theorem AllF.impIn : ∀ {ds : List D} {vs : List V} {F : List Addr}, (∀ d v F1, (∀ a ∈ F1, a ∈ F) → P d v F1 → P' d v F1) → AllF P ds vs F → AllF P' ds vs F
  | [], _, _, _, x => x
  | d :: ds, _, F, h, ⟨v, vs', F1, F2, e, p, r, eF⟩ => ⟨v, vs', F1, F2, e, h _ _ _ (fun a m => by rw [eF]; exact List.mem_append_left _ m) p,
      AllF.impIn (fun d v G m p => h d v G (fun a ha => by rw [eF]; exact List.mem_append_right _ (m a ha)) p) r, eF⟩
theorem AllF.len : ∀ {ds : List D} {vs : List V} {F : List Addr}, AllF P ds vs F → vs.length = ds.length
  | [], _, _, ⟨e, _⟩ => by rw [e]; rfl
  | d :: ds, _, _, ⟨v, vs', F1, F2, e, p, r, eF⟩ => by rw [e, List.length_cons, List.length_cons, AllF.len r]
theorem AllF.append : ∀ {ds es : List D} {vs us : List V} {F G : List Addr}, AllF P ds vs F → AllF P es us G → AllF P (ds ++ es) (vs ++ us) (F ++ G)
  | [], es, vs, us, F, G, ⟨e, f⟩, h => by rw [e, f]; exact h
  | d :: ds, es, vs, us, F, G, ⟨v, vs', F1, F2, e, p, r, eF⟩, h => ⟨v, vs' ++ us, F1, F2 ++ G, by rw [e]; rfl, p, AllF.append r h, by rw [eF, List.append_assoc]⟩
theorem AllF.one {d : D} {v : V} {F : List Addr} (p : P d v F) : AllF P [d] [v] F := ⟨v, [], F, [], rfl, p, ⟨rfl, rfl⟩, by simp⟩
/-- the i-th part, and another put in its place -/
theorem AllF.at : ∀ {ds : List D} {vs : List V} {F : List Addr} {i : Nat} {d : D}, AllF P ds vs F → ds[i]? = some d →
    ∃ v Fi A B, vs[i]? = some v ∧ P d v Fi ∧ F = A ++ Fi ++ B ∧
      (∀ (P' : D → V → List Addr → Prop) d' v' Fi', (∀ x w G, (∀ a ∈ G, a ∈ A ++ B) → P x w G → P' x w G) → P' d' v' Fi' → AllF P' (ds.set i d') (vs.set i v') (A ++ Fi' ++ B)) ∧
      (∀ (P' : D → V → List Addr → Prop), (∀ x w G, (∀ a ∈ G, a ∈ A ++ B) → P x w G → P' x w G) → AllF P' (ds.eraseIdx i) (vs.eraseIdx i) (A ++ B))
  | [], _, _, _, _, _, e => by simp at e
  | d0 :: ds, _, F, 0, d, ⟨v, vs', F1, F2, ev, p, r, eF⟩, e => by
    simp at e
    subst e ev
    refine ⟨v, F1, [], F2, rfl, p, by simpa using eF, fun P' d' v' Fi' h p' => ?_, fun P' h => ?_⟩
    · exact ⟨v', vs', Fi', F2, rfl, p', AllF.impIn (fun x w G m q => h x w G (fun a ha => by simpa using m a ha) q) r, rfl⟩
    · exact AllF.impIn (fun x w G m q => h x w G (fun a ha => by simpa using m a ha) q) r
  | d0 :: ds, _, F, i + 1, d, ⟨v, vs', F1, F2, ev, p, r, eF⟩, e => by
    subst ev
    obtain ⟨u, Fi, A, B, hu, pu, eq, k1, k2⟩ := AllF.at (i := i) r (by simpa using e)
    refine ⟨u, Fi, F1 ++ A, B, by simpa using hu, pu, by rw [eF, eq]; simp [List.append_assoc], fun P' d' v' Fi' h p' => ?_, fun P' h => ?_⟩
    · refine ⟨v, vs'.set i v', F1, A ++ Fi' ++ B, rfl, h _ _ _ (fun a ha => by simp [ha]) p, k1 P' d' v' Fi' (fun x w G m q => h x w G (fun a ha => by have := m a ha; simp at this ⊢; rcases this with z | z <;> simp [z]) q) p', by simp [List.append_assoc]⟩
    · refine ⟨v, vs'.eraseIdx i, F1, A ++ B, rfl, h _ _ _ (fun a ha => by simp [ha]) p, k2 P' (fun x w G m q => h x w G (fun a ha => by have := m a ha; simp at this ⊢; rcases this with z | z <;> simp [z]) q), by simp [List.append_assoc]⟩
end
section
variable {K : PySem.W.Frag} {H H' H0 Hs Hs' : Hp}
theorem Own.congr : ∀ {n : Nat} {d : D} {v : V} {F : List Addr}, Same Hs Hs' → (∀ a ∈ F, H' a = H a) → Own K Hs H n d v F → Own K Hs' H' n d v F
  | 0, d, v, F, sm, h, ⟨r, e⟩ => ⟨Rep.mono sm d v r, e⟩
  | n + 1, .lst ds, v, F, sm, h, ⟨a, vs, F', e, ha, r, eF⟩ =>
    ⟨a, vs, F', e, by rw [h a (by rw [eF]; exact List.mem_cons_self)]; exact ha, AllF.impIn (fun x w G m q => Own.congr sm (fun b hb => h b (by rw [eF]; exact List.mem_cons_of_mem _ (m b hb))) q) r, eF⟩
  | n + 1, .tup ds, v, F, sm, h, ⟨a, vs, F', e, ha, r, eF⟩ =>
    ⟨a, vs, F', e, by rw [h a (by rw [eF]; exact List.mem_cons_self)]; exact ha, AllF.impIn (fun x w G m q => Own.congr sm (fun b hb => h b (by rw [eF]; exact List.mem_cons_of_mem _ (m b hb))) q) r, eF⟩
  | n + 1, .non, v, F, sm, h, x => x
  | n + 1, .bl b, v, F, sm, h, x => x
  | n + 1, .int i, v, F, sm, h, x => x
  | n + 1, .str s, v, F, sm, h, x => x
  | n + 1, .scr ns, v, F, sm, h, ⟨r, e⟩ => ⟨Rep.mono sm (.scr ns) v r, e⟩
  | n + 1, .hole, v, F, sm, h, x => x
  | n + 1, .ex a, v, F, sm, h, x => x
  | n + 1, .pin b ds, v, F, sm, h, ⟨vs, F', e, ha, r, eF⟩ =>
    ⟨vs, F', e, by rw [h b (by rw [eF]; exact List.mem_cons_self)]; exact ha, AllF.impIn (fun x w G m q => Own.congr sm (fun c hc => h c (by rw [eF]; exact List.mem_cons_of_mem _ (m c hc))) q) r, eF⟩
theorem AllF.repL {n : Nat} (h : ∀ d v F, Own K Hs H n d v F → Rep K H' d v) : ∀ {ds : List D} {vs : List V} {F : List Addr}, AllF (Own K Hs H n) ds vs F → RepL K H' ds vs
  | [], _, _, ⟨e, _⟩ => by unfold RepL; exact e
  | d :: ds, _, _, ⟨v, vs', F1, F2, e, p, r, eF⟩ => by
    unfold RepL
    exact ⟨v, vs', e, h _ _ _ p, AllF.repL h r⟩
theorem AllF.repLIn {n : Nat} : ∀ {ds : List D} {vs : List V} {F : List Addr}, (∀ d v G, (∀ a ∈ G, a ∈ F) → Own K Hs H n d v G → Rep K H' d v) → AllF (Own K Hs H n) ds vs F → RepL K H' ds vs
  | [], _, _, _, ⟨e, _⟩ => by unfold RepL; exact e
  | d :: ds, _, _, h, ⟨v, vs', F1, F2, e, p, r, eF⟩ => by
    unfold RepL
    exact ⟨v, vs', e, h _ _ _ (fun a m => by rw [eF]; exact List.mem_append_left _ m) p, AllF.repLIn (fun d v G m q => h d v G (fun a ha => by rw [eF]; exact List.mem_append_right _ (m a ha)) q) r⟩
/-- what is owned is there to be read, in any heap that has its places and what is shared -/
theorem Own.rep : ∀ {n : Nat} {d : D} {v : V} {F : List Addr}, Same Hs H' → (∀ a ∈ F, ∀ o, H a = some o → H' a = some o) → Own K Hs H n d v F → Rep K H' d v
  | 0, d, v, F, sm, h, ⟨r, e⟩ => Rep.mono sm d v r
  | n + 1, .lst ds, v, F, sm, h, ⟨a, vs, F', e, ha, r, eF⟩ => by
    unfold Rep
    exact ⟨a, vs, e, h a (by rw [eF]; exact List.mem_cons_self) _ ha, AllF.repLIn (fun x w G m q => Own.rep sm (fun b hb => h b (by rw [eF]; exact List.mem_cons_of_mem _ (m b hb))) q) r⟩
  | n + 1, .tup ds, v, F, sm, h, ⟨a, vs, F', e, ha, r, eF⟩ => by
    unfold Rep
    exact ⟨a, vs, e, h a (by rw [eF]; exact List.mem_cons_self) _ ha, AllF.repLIn (fun x w G m q => Own.rep sm (fun b hb => h b (by rw [eF]; exact List.mem_cons_of_mem _ (m b hb))) q) r⟩
  | n + 1, .non, v, F, sm, h, ⟨e, _⟩ => by unfold Rep; exact e
  | n + 1, .bl b, v, F, sm, h, ⟨e, _⟩ => by unfold Rep; exact e
  | n + 1, .int i, v, F, sm, h, ⟨e, _⟩ => by unfold Rep; exact e
  | n + 1, .str s, v, F, sm, h, ⟨e, _⟩ => by unfold Rep; exact e
  | n + 1, .scr ns, v, F, sm, h, ⟨r, e⟩ => Rep.mono sm (.scr ns) v r
  | n + 1, .hole, v, F, sm, h, x => by unfold Rep; trivial
  | n + 1, .ex a, v, F, sm, h, ⟨e, _⟩ => by unfold Rep; exact e
  | n + 1, .pin b ds, v, F, sm, h, ⟨vs, F', e, ha, r, eF⟩ => by
    unfold Rep
    exact ⟨e, vs, h b (by rw [eF]; exact List.mem_cons_self) _ ha, AllF.repLIn (fun x w G m q => Own.rep sm (fun c hc => h c (by rw [eF]; exact List.mem_cons_of_mem _ (m c hc))) q) r⟩
theorem AllF.mem {P : D → V → List Addr → Prop} {Z : Addr → Prop} (h : ∀ d v F, P d v F → ∀ a ∈ F, Z a) : ∀ {ds : List D} {vs : List V} {F : List Addr}, AllF P ds vs F → ∀ a ∈ F, Z a
  | [], _, _, ⟨_, e⟩, a, m => by rw [e] at m; cases m
  | d :: ds, _, _, ⟨v, vs', F1, F2, e, p, r, eF⟩, a, m => by
    rw [eF] at m
    rcases List.mem_append.mp m with m | m
    · exact h _ _ _ p a m
    · exact AllF.mem h r a m
theorem Own.there : ∀ {n : Nat} {d : D} {v : V} {F : List Addr}, Own K Hs H n d v F → ∀ a ∈ F, H a ≠ none
  | 0, d, v, F, ⟨r, e⟩, a, m => by rw [e] at m; cases m
  | n + 1, .lst ds, v, F, ⟨a, vs, F', e, ha, r, eF⟩, b, m => by
    rw [eF] at m
    rcases List.mem_cons.mp m with m | m
    · rw [m, ha]; exact fun z => by cases z
    · exact AllF.mem (fun d v F p => Own.there p) r b m
  | n + 1, .tup ds, v, F, ⟨a, vs, F', e, ha, r, eF⟩, b, m => by
    rw [eF] at m
    rcases List.mem_cons.mp m with m | m
    · rw [m, ha]; exact fun z => by cases z
    · exact AllF.mem (fun d v F p => Own.there p) r b m
  | n + 1, .non, v, F, ⟨_, e⟩, a, m => by rw [e] at m; cases m
  | n + 1, .bl b, v, F, ⟨_, e⟩, a, m => by rw [e] at m; cases m
  | n + 1, .int i, v, F, ⟨_, e⟩, a, m => by rw [e] at m; cases m
  | n + 1, .str s, v, F, ⟨_, e⟩, a, m => by rw [e] at m; cases m
  | n + 1, .scr ns, v, F, ⟨_, e⟩, a, m => by rw [e] at m; cases m
  | n + 1, .hole, v, F, e, a, m => by rw [show F = [] from e] at m; cases m
  | n + 1, .ex b, v, F, ⟨_, e⟩, a, m => by rw [e] at m; cases m
  | n + 1, .pin c ds, v, F, ⟨vs, F', e, ha, r, eF⟩, b, m => by
    rw [eF] at m
    rcases List.mem_cons.mp m with m | m
    · rw [m, ha]; exact fun z => by cases z
    · exact AllF.mem (fun d v F p => Own.there p) r b m
end

/-! ### a frame's slots -/
inductive Slot where
  | J
  | S (n : Nat) (d : D)
def Slot.d? : Slot → Option D
  | .J => none
  | .S _ d => some d
def Cls (K : PySem.W.Frag) (Hs H : Hp) : List (Option V) → List Slot → List Addr → Prop
  | σ, [], F => σ = [] ∧ F = []
  | σ, .J :: env, F => ∃ o σ', σ = o :: σ' ∧ Cls K Hs H σ' env F
  | σ, .S n d :: env, F => ∃ v σ' F1 F2, σ = some v :: σ' ∧ Own K Hs H n d v F1 ∧ Cls K Hs H σ' env F2 ∧ F = F1 ++ F2
structure FrX (K : PySem.W.Frag) (H0 Hs H : Hp) (σ : Sg) (env : List Slot) (F : List Addr) : Prop where
  low : Same H0 Hs
  up : Same Hs H
  cls : Cls K Hs H σ env F
  nd : F.Nodup
  fresh : ∀ a ∈ F, Hs a = none
def Fr (K : PySem.W.Frag) (H0 H : Hp) (σ : Sg) (env : List Slot) : Prop := ∃ Hs F, FrX K H0 Hs H σ env F
/-- a frame for reading alone -/
structure RdF (K : PySem.W.Frag) (H : Hp) (σ : Sg) (ρ : List (Option D)) : Prop where
  len : σ.length = ρ.length
  get : ∀ (i : Nat) (d : D), ρ[i]? = some (some d) → ∃ v, σ[i]? = some (some v) ∧ Rep K H d v
section
variable {K : PySem.W.Frag} {H H' H0 H1 Hs Hs' : Hp} {σ : Sg} {env : List Slot} {F : List Addr}
theorem Cls.len : ∀ {σ : Sg} {env : List Slot} {F : List Addr}, Cls K Hs H σ env F → σ.length = env.length
  | σ, [], F, ⟨e, _⟩ => by rw [e]; rfl
  | σ, .J :: env, F, ⟨o, σ', e, r⟩ => by rw [e, List.length_cons, List.length_cons, Cls.len r]
  | σ, .S n d :: env, F, ⟨v, σ', F1, F2, e, p, r, eF⟩ => by rw [e, List.length_cons, List.length_cons, Cls.len r]
theorem Cls.congr : ∀ {σ : Sg} {env : List Slot} {F : List Addr}, Same Hs Hs' → (∀ a ∈ F, H' a = H a) → Cls K Hs H σ env F → Cls K Hs' H' σ env F
  | σ, [], F, sm, h, x => x
  | σ, .J :: env, F, sm, h, ⟨o, σ', e, r⟩ => ⟨o, σ', e, Cls.congr sm h r⟩
  | σ, .S n d :: env, F, sm, h, ⟨v, σ', F1, F2, e, p, r, eF⟩ => ⟨v, σ', F1, F2, e, Own.congr sm (fun a m => h a (by rw [eF]; exact List.mem_append_left _ m)) p, Cls.congr sm (fun a m => h a (by rw [eF]; exact List.mem_append_right _ m)) r, eF⟩
theorem Cls.there : ∀ {σ : Sg} {env : List Slot} {F : List Addr}, Cls K Hs H σ env F → ∀ a ∈ F, H a ≠ none
  | σ, [], F, ⟨_, e⟩, a, m => by rw [e] at m; cases m
  | σ, .J :: env, F, ⟨o, σ', e, r⟩, a, m => Cls.there r a m
  | σ, .S n d :: env, F, ⟨v, σ', F1, F2, e, p, r, eF⟩, a, m => by
    rw [eF] at m
    rcases List.mem_append.mp m with m | m
    · exact Own.there p a m
    · exact Cls.there r a m
theorem Cls.rd0 : ∀ {σ : Sg} {env : List Slot} {F : List Addr}, Same Hs H → Cls K Hs H σ env F → ∀ (i : Nat) (d : D), (env.map Slot.d?)[i]? = some (some d) → ∃ v, σ[i]? = some (some v) ∧ Rep K H d v
  | σ, [], F, sm, x, i, d, e => by simp at e
  | σ, .J :: env, F, sm, ⟨o, σ', eσ, r⟩, 0, d, e => by simp [Slot.d?] at e
  | σ, .J :: env, F, sm, ⟨o, σ', eσ, r⟩, i + 1, d, e => by
    obtain ⟨v, h1, h2⟩ := Cls.rd0 sm r i d (by simpa using e)
    exact ⟨v, by rw [eσ]; simpa using h1, h2⟩
  | σ, .S n d0 :: env, F, sm, ⟨v, σ', F1, F2, eσ, p, r, eF⟩, 0, d, e => by
    simp [Slot.d?] at e
    subst e
    exact ⟨v, by rw [eσ]; rfl, Own.rep sm (fun a _ o h => h) p⟩
  | σ, .S n d0 :: env, F, sm, ⟨v, σ', F1, F2, eσ, p, r, eF⟩, i + 1, d, e => by
    obtain ⟨v, h1, h2⟩ := Cls.rd0 sm r i d (by simpa using e)
    exact ⟨v, by rw [eσ]; simpa using h1, h2⟩
theorem Cls.rd {σ : Sg} {env : List Slot} {F : List Addr} (sm : Same Hs H) (h : Cls K Hs H σ env F) : RdF K H σ (env.map Slot.d?) := ⟨by rw [h.len, List.length_map], Cls.rd0 sm h⟩
theorem FrX.rd (h : FrX K H0 Hs H σ env F) : RdF K H σ (env.map Slot.d?) := Cls.rd h.up h.cls
theorem Fr.rd (h : Fr K H0 H σ env) : RdF K H σ (env.map Slot.d?) := let ⟨_, _, x⟩ := h; x.rd
theorem RdF.mono {ρ : List (Option D)} (h : RdF K H σ ρ) (sm : Same H H') : RdF K H' σ ρ := ⟨h.len, fun i d e => by
  obtain ⟨v, h1, h2⟩ := h.get i d e
  exact ⟨v, h1, Rep.mono sm _ _ h2⟩⟩
/-- the heap has grown -/
theorem FrX.grow (h : FrX K H0 Hs H σ env F) (sm : Same H H') : FrX K H0 Hs H' σ env F :=
  ⟨h.low, h.up.trans sm, Cls.congr (Same.refl _) (fun a m => by
    cases e : H a with
    | none => exact absurd e (Cls.there h.cls a m)
    | some o => exact sm a o e) h.cls, h.nd, h.fresh⟩
theorem Fr.grow (h : Fr K H0 H σ env) (sm : Same H H') : Fr K H0 H' σ env := let ⟨Hs, F, x⟩ := h; ⟨Hs, F, x.grow sm⟩
theorem Fr.same (h : Fr K H0 H σ env) : Same H0 H := let ⟨Hs, F, x⟩ := h; x.low.trans x.up
/-- the i-th slot, another value put in its place (or none) -/
theorem Cls.at : ∀ {σ : Sg} {env : List Slot} {F : List Addr} {i : Nat} {n : Nat} {d : D}, Cls K Hs H σ env F → env[i]? = some (.S n d) →
    ∃ v Fi A B, σ[i]? = some (some v) ∧ Own K Hs H n d v Fi ∧ F = A ++ Fi ++ B ∧
      (∀ Hs' H' n' d' v' Fi', Same Hs Hs' → (∀ a ∈ A ++ B, H' a = H a) → Own K Hs' H' n' d' v' Fi' → Cls K Hs' H' (σ.set i (some v')) (env.set i (.S n' d')) (A ++ Fi' ++ B)) ∧
      (∀ Hs' H' o, Same Hs Hs' → (∀ a ∈ A ++ B, H' a = H a) → Cls K Hs' H' (σ.set i o) (env.set i .J) (A ++ B))
  | σ, [], F, i, n, d, x, e => by simp at e
  | σ, .J :: env, F, 0, n, d, x, e => by simp at e
  | σ, .J :: env, F, i + 1, n, d, ⟨o, σ', eσ, r⟩, e => by
    subst eσ
    obtain ⟨v, Fi, A, B, h1, h2, h3, h4, h5⟩ := Cls.at (i := i) r (by simpa using e)
    exact ⟨v, Fi, A, B, by simpa using h1, h2, h3, fun Hs' H' n' d' v' Fi' sm q w => ⟨o, _, rfl, h4 Hs' H' n' d' v' Fi' sm q w⟩, fun Hs' H' o' sm q => ⟨o, _, rfl, h5 Hs' H' o' sm q⟩⟩
  | σ, .S n0 d0 :: env, F, 0, n, d, ⟨v, σ', F1, F2, eσ, p, r, eF⟩, e => by
    simp at e
    obtain ⟨rfl, rfl⟩ := e
    subst eσ
    exact ⟨v, F1, [], F2, rfl, p, by simpa using eF, fun Hs' H' n' d' v' Fi' sm q w => ⟨v', σ', Fi', F2, rfl, w, Cls.congr sm (fun a m => q a (by simpa using m)) r, rfl⟩, fun Hs' H' o sm q => ⟨o, σ', rfl, Cls.congr sm (fun a m => q a (by simpa using m)) r⟩⟩
  | σ, .S n0 d0 :: env, F, i + 1, n, d, ⟨v0, σ', F1, F2, eσ, p, r, eF⟩, e => by
    subst eσ
    obtain ⟨v, Fi, A, B, h1, h2, h3, h4, h5⟩ := Cls.at (i := i) r (by simpa using e)
    refine ⟨v, Fi, F1 ++ A, B, by simpa using h1, h2, by rw [eF, h3]; simp [List.append_assoc], fun Hs' H' n' d' v' Fi' sm q w => ?_, fun Hs' H' o sm q => ?_⟩
    · exact ⟨v0, _, F1, A ++ Fi' ++ B, rfl, Own.congr sm (fun a m => q a (by simp [m])) p, h4 Hs' H' n' d' v' Fi' sm (fun a m => q a (by simp at m ⊢; rcases m with m | m <;> simp [m])) w, by simp [List.append_assoc]⟩
    · exact ⟨v0, _, F1, A ++ B, rfl, Own.congr sm (fun a m => q a (by simp [m])) p, h5 Hs' H' o sm (fun a m => q a (by simp at m ⊢; rcases m with m | m <;> simp [m])), by simp [List.append_assoc]⟩
/-- any slot set to something that owns Fi' -/
theorem Cls.put : ∀ {σ : Sg} {env : List Slot} {F : List Addr} {i : Nat}, Cls K Hs H σ env F → i < env.length →
    ∃ Fo A B, F = A ++ Fo ++ B ∧ ∀ n' d' v' Fi', Own K Hs H n' d' v' Fi' → Cls K Hs H (σ.set i (some v')) (env.set i (.S n' d')) (A ++ Fi' ++ B)
  | σ, [], F, i, x, e => by simp at e
  | σ, .J :: env, F, 0, ⟨o, σ', eσ, r⟩, e => by
    subst eσ
    exact ⟨[], [], F, by simp, fun n' d' v' Fi' w => ⟨v', σ', Fi', F, rfl, w, r, rfl⟩⟩
  | σ, .J :: env, F, i + 1, ⟨o, σ', eσ, r⟩, e => by
    subst eσ
    obtain ⟨Fo, A, B, h1, h2⟩ := Cls.put (i := i) r (by simpa using e)
    exact ⟨Fo, A, B, h1, fun n' d' v' Fi' w => ⟨o, _, rfl, h2 n' d' v' Fi' w⟩⟩
  | σ, .S n0 d0 :: env, F, 0, ⟨v, σ', F1, F2, eσ, p, r, eF⟩, e => by
    subst eσ
    exact ⟨F1, [], F2, by simpa using eF, fun n' d' v' Fi' w => ⟨v', σ', Fi', F2, rfl, w, r, rfl⟩⟩
  | σ, .S n0 d0 :: env, F, i + 1, ⟨v0, σ', F1, F2, eσ, p, r, eF⟩, e => by
    subst eσ
    obtain ⟨Fo, A, B, h1, h2⟩ := Cls.put (i := i) r (by simpa using e)
    exact ⟨Fo, F1 ++ A, B, by rw [eF, h1]; simp [List.append_assoc], fun n' d' v' Fi' w => ⟨v0, _, F1, A ++ Fi' ++ B, rfl, p, h2 n' d' v' Fi' w, by simp [List.append_assoc]⟩⟩
end
theorem nodup_put {A Fo B Fi : List Addr} (h : (A ++ Fo ++ B).Nodup) (hi : Fi.Nodup) (dj : ∀ a ∈ Fi, a ∉ A ++ B) : (A ++ Fi ++ B).Nodup := by
  have h1 : (A ++ B).Nodup := by
    refine List.Nodup.sublist ?_ h
    rw [List.append_assoc]
    exact List.Sublist.append_left (List.sublist_append_right _ _) _
  rw [List.append_assoc, List.nodup_append]
  obtain ⟨a1, a2, a3⟩ := List.nodup_append.mp h1
  refine ⟨a1, List.nodup_append.mpr ⟨hi, a2, fun a ha b hb e => ?_⟩, fun a ha b hb e => ?_⟩
  · subst e; exact dj a ha (List.mem_append_right _ hb)
  · subst e
    rcases List.mem_append.mp hb with z | z
    · exact dj a z (List.mem_append_left _ ha)
    · exact a3 a ha a z rfl
section
variable {K : PySem.W.Frag} {H H' H0 H1 Hs Hs' : Hp} {σ : Sg} {env : List Slot} {F : List Addr}
/-- a new owned thing is stored -/
theorem FrX.store (h : FrX K H0 Hs H σ env F) {i n : Nat} {d : D} {v : V} {G : List Addr} (hi : i < env.length) (o : Own K Hs H n d v G) (nd : G.Nodup) (fr : ∀ a ∈ G, Hs a = none) (dj : ∀ a ∈ G, a ∉ F) :
    ∃ F', FrX K H0 Hs H (σ.set i (some v)) (env.set i (.S n d)) F' := by
  obtain ⟨Fo, A, B, e, k⟩ := Cls.put h.cls hi
  refine ⟨_, h.low, h.up, k n d v G o, nodup_put (by rw [← e]; exact h.nd) nd fun a m z => dj a m ?_, fun a m => ?_⟩
  · rw [e]; simp at z ⊢; rcases z with z | z <;> simp [z]
  · simp at m
    rcases m with m | m | m
    · exact h.fresh a (by rw [e]; simp [m])
    · exact fr a m
    · exact h.fresh a (by rw [e]; simp [m])
/-- what is owned becomes shared: the heap of what is shared grows -/
theorem FrX.freeze (h : FrX K H0 Hs H σ env F) {i n : Nat} {d : D} (hi : env[i]? = some (.S n d)) :
    ∃ Hs' F', Same Hs Hs' ∧ FrX K H0 Hs' H σ (env.set i (.S 0 d)) F' := by
  obtain ⟨v, Fi, A, B, h1, h2, h3, h4, h5⟩ := Cls.at h.cls hi
  obtain ⟨Hs', eH⟩ : ∃ Hs' : Hp, Hs' = fun a => if a ∈ Fi then H a else Hs a := ⟨_, rfl⟩
  have nd : (A ++ Fi ++ B).Nodup := by rw [← h3]; exact h.nd
  have sm : Same Hs Hs' := fun a o q => by
    rw [eH]
    show (if a ∈ Fi then H a else Hs a) = some o
    by_cases m : a ∈ Fi
    · rw [if_pos m]; exact h.up a o q
    · rw [if_neg m]; exact q
  have up : Same Hs' H := fun a o q => by
    rw [eH] at q
    have q : (if a ∈ Fi then H a else Hs a) = some o := q
    by_cases m : a ∈ Fi
    · rw [if_pos m] at q; exact q
    · rw [if_neg m] at q; exact h.up a o q
  have r : Rep K Hs' d v := Own.rep sm (fun a m o q => by
    rw [eH]
    show (if a ∈ Fi then H a else Hs a) = some o
    rw [if_pos m]; exact q) h2
  have k := h4 Hs' H 0 d v [] sm (fun _ _ => rfl) ⟨r, rfl⟩
  have eσ : σ.set i (some v) = σ := by
    apply List.ext_getElem?
    intro j
    rw [List.getElem?_set]
    split
    · rename_i e; subst e; split
      · rw [h1]
      · rename_i hl; rw [List.getElem?_eq_none (by omega)] at h1; cases h1
    · rfl
  rw [eσ] at k
  refine ⟨Hs', A ++ [] ++ B, sm, h.low.trans sm, up, k, ?_, fun a m => ?_⟩
  · exact nodup_put nd List.nodup_nil (by simp)
  · have hm : a ∉ Fi := by
      intro z
      rw [List.append_assoc] at nd
      obtain ⟨n1, n2, n3⟩ := List.nodup_append.mp nd
      obtain ⟨_, n4, n5⟩ := List.nodup_append.mp n2
      simp at m
      rcases m with m | m
      · exact n3 a m a (List.mem_append_left _ z) rfl
      · exact n5 a z a m rfl
    rw [eH]
    show (if a ∈ Fi then H a else Hs a) = none
    rw [if_neg hm]
    simp at m
    exact h.fresh a (by rw [h3]; simp; rcases m with m | m <;> simp [m])
theorem Fr.freeze (h : Fr K H0 H σ env) {i n : Nat} {d : D} (hi : env[i]? = some (.S n d)) : Fr K H0 H σ (env.set i (.S 0 d)) := by
  obtain ⟨Hs, F, x⟩ := h
  obtain ⟨Hs', F', _, y⟩ := x.freeze hi
  exact ⟨Hs', F', y⟩
/-- slots forgotten -/
inductive Wk : List Slot → List Slot → Prop
  | nil : Wk [] []
  | keep {s : Slot} {a b : List Slot} : Wk a b → Wk (s :: a) (s :: b)
  | drop {s : Slot} {a b : List Slot} : Wk a b → Wk (s :: a) (.J :: b)
theorem Wk.refl : ∀ env : List Slot, Wk env env
  | [] => .nil
  | _ :: r => .keep (Wk.refl r)
theorem Cls.wk : ∀ {σ : Sg} {e1 e2 : List Slot} {F : List Addr}, Wk e1 e2 → Cls K Hs H σ e1 F → ∃ F', F'.Sublist F ∧ Cls K Hs H σ e2 F'
  | σ, _, _, F, .nil, x => ⟨F, List.Sublist.refl _, x⟩
  | σ, .J :: a, _, F, .keep w, ⟨o, σ', e, r⟩ => by
    obtain ⟨F', s, q⟩ := Cls.wk w r
    exact ⟨F', s, o, σ', e, q⟩
  | σ, .S n d :: a, _, F, .keep w, ⟨v, σ', F1, F2, e, p, r, eF⟩ => by
    obtain ⟨F', s, q⟩ := Cls.wk w r
    exact ⟨F1 ++ F', by rw [eF]; exact List.Sublist.append_left s _, v, σ', F1, F', e, p, q, rfl⟩
  | σ, .J :: a, _, F, .drop w, ⟨o, σ', e, r⟩ => by
    obtain ⟨F', s, q⟩ := Cls.wk w r
    exact ⟨F', s, o, σ', e, q⟩
  | σ, .S n d :: a, _, F, .drop w, ⟨v, σ', F1, F2, e, p, r, eF⟩ => by
    obtain ⟨F', s, q⟩ := Cls.wk w r
    exact ⟨F', by rw [eF]; exact s.trans (List.sublist_append_right _ _), some v, σ', e, q⟩
theorem FrX.wk {e2 : List Slot} (h : FrX K H0 Hs H σ env F) (w : Wk env e2) : ∃ F', F'.Sublist F ∧ FrX K H0 Hs H σ e2 F' := by
  obtain ⟨F', s, q⟩ := Cls.wk w h.cls
  exact ⟨F', s, h.low, h.up, q, h.nd.sublist s, fun a m => h.fresh a (s.subset m)⟩
theorem Fr.wk {e2 : List Slot} (h : Fr K H0 H σ env) (w : Wk env e2) : Fr K H0 H σ e2 := by
  obtain ⟨Hs, F, x⟩ := h
  obtain ⟨F', s, y⟩ := x.wk w
  exact ⟨Hs, F', y⟩
end
end Sw

/- part SwEv -/
/-! Expressions: what they answer, over data alone. -/
namespace Sw
open PySem PySem.Spec PyProof.Rows L2

/-- how a value is held: to be read; or its own, n levels of it -/
inductive Kd where
  | R
  | O (n : Nat)
def Kd.sat (K : PySem.W.Frag) : Kd → Hp → Hp → D → V → Prop
  | .R, _, H', d, v => Rep K H' d v
  | .O n, H, H', d, v => ∃ F, Own K emp H' n d v F ∧ F.Nodup ∧ ∀ a ∈ F, H a = none
def Kd.satL (K : PySem.W.Frag) : Kd → Hp → Hp → List D → List V → Prop
  | .R, _, H', ds, vs => RepL K H' ds vs
  | .O n, H, H', ds, vs => ∃ F, AllF (Own K emp H' n) ds vs F ∧ F.Nodup ∧ ∀ a ∈ F, H a = none
def D.atom : D → Bool
  | .non | .bl _ | .int _ | .str _ => true
  | _ => false
section
variable {K : PySem.W.Frag} {H H' H1 H2 : Hp} {k : Kd} {d : D} {v : V}
theorem Kd.sat.rep : ∀ {k : Kd}, k.sat K H H' d v → Rep K H' d v
  | .R, h => h
  | .O n, ⟨F, o, _, _⟩ => Own.rep (same_emp _) (fun _ _ _ h => h) o
theorem Kd.sat.back (sm : Same H H1) : ∀ {k : Kd}, k.sat K H1 H' d v → k.sat K H H' d v
  | .R, h => h
  | .O n, ⟨F, o, nd, fr⟩ => ⟨F, o, nd, fun a m => sm.free (fr a m)⟩
theorem Kd.sat.fwd (sm : Same H' H2) : ∀ {k : Kd}, k.sat K H H' d v → k.sat K H H2 d v
  | .R, h => Rep.mono sm _ _ h
  | .O n, ⟨F, o, nd, fr⟩ => ⟨F, Own.congr (Same.refl _) (fun a m => by
      cases e : H' a with
      | none => exact absurd e (Own.there o a m)
      | some x => exact sm a x e) o, nd, fr⟩
theorem Kd.satL.repL : ∀ {k : Kd} {ds : List D} {vs : List V}, k.satL K H H' ds vs → RepL K H' ds vs
  | .R, _, _, h => h
  | .O n, _, _, ⟨F, o, _, _⟩ => AllF.repL (fun _ _ _ p => Own.rep (same_emp _) (fun _ _ _ h => h) p) o
theorem rep_atom (h : d.atom = true) (r : Rep K H d v) : Rep K H2 d v := by
  cases d <;> first | (unfold Rep at r ⊢; exact r) | (simp [D.atom] at h)
theorem own_atom {Hs : Hp} (h : d.atom = true) (r : Rep K H d v) : ∀ n, Own K Hs H2 n d v []
  | 0 => ⟨rep_atom h r, rfl⟩
  | n + 1 => by
    cases d <;> first | (unfold Rep at r; exact ⟨r, rfl⟩) | (simp [D.atom] at h)
theorem Kd.atom (h : d.atom = true) (r : Rep K H2 d v) : ∀ k : Kd, k.sat K H H' d v
  | .R => rep_atom h r
  | .O n => ⟨[], own_atom h r n, List.nodup_nil, fun _ m => by cases m⟩
theorem all_atoms {n : Nat} {Hs : Hp} : ∀ {ds : List D} {vs : List V}, ds.all D.atom = true → RepL K H ds vs → AllF (Own K Hs H2 n) ds vs []
  | [], vs, _, r => by unfold RepL at r; exact ⟨r, rfl⟩
  | d :: ds, vs, h, r => by
    unfold RepL at r
    obtain ⟨v, vs', e, r1, r2⟩ := r
    simp only [List.all_cons, Bool.and_eq_true] at h
    exact ⟨v, vs', [], [], e, own_atom h.1 r1 n, all_atoms h.2 r2, rfl⟩
end
theorem AllF.there {K : PySem.W.Frag} {Hs H : Hp} {n : Nat} {ds : List D} {vs : List V} {F : List Addr} (h : AllF (Own K Hs H n) ds vs F) : ∀ a ∈ F, H a ≠ none := AllF.mem (fun d v F p => Own.there p) h

def wE (X : Cx) (e : Expr) : TE := fun σ H Q => ∀ (pins : List (Addr × Obj)) (s : Shared), Inv X pins σ H s → wpAny (model X.prog X.w) X.A (eval e X.env) (EP X pins σ Q) X.xe s
def wT (X : Cx) (e : Expr) : TT := fun σ H Q => ∀ (pins : List (Addr × Obj)) (s : Shared), Inv X pins σ H s → wpAny (model X.prog X.w) X.A (isTrue e X.env (eval e X.env)) (TP X pins σ Q) X.xe s
def wA (X : Cx) (es : List Expr) : TA := fun σ H Q => ∀ (pos : Pos) (pins : List (Addr × Obj)) (s : Shared), Inv X pins σ H s → wpAny (model X.prog X.w) X.A (spliced (backTo pos (starEach es X.env))) (AP X pins σ Q) X.xe s
theorem wE.pe (X : Cx) (e : Expr) : PE X e (wE X e) := ⟨fun pins s σ H Q I h => h pins s I⟩
theorem wT.pt (X : Cx) (e : Expr) : PT X e (wT X e) := ⟨fun pins s σ H Q I h => h pins s I⟩
theorem wA.pa (X : Cx) (es : List Expr) : PA X es (wA X es) := ⟨fun pos pins s σ H Q I h => h pos pins s I⟩
theorem wE.of {X : Cx} {e : Expr} {t : TE} (p : PE X e t) {σ : Sg} {H : Hp} {Q : VK} (h : t σ H Q) : wE X e σ H Q := fun pins s I => p.run pins s σ H Q I h
theorem wT.of {X : Cx} {e : Expr} {t : TT} (p : PT X e t) {σ : Sg} {H : Hp} {Q : Bool → Hp → Prop} (h : t σ H Q) : wT X e σ H Q := fun pins s I => p.run pins s σ H Q I h
theorem wA.of {X : Cx} {e : List Expr} {t : TA} (p : PA X e t) {σ : Sg} {H : Hp} {Q : List V → Hp → Prop} (h : t σ H Q) : wA X e σ H Q := fun pos pins s I => p.run pos pins s σ H Q I h

/-- what has to follow upon an answer -/
def PostE (X : Cx) (W : WX) (k : Kd) (σ : Sg) (H : Hp) (Q : VK) : Rs D → Prop
  | .nx d => ∀ v H', Same H H' → k.sat X.K H H' d v → Q v H'
  | .exc n => ∀ C, X.mg n = some (.ref C) → ∀ H', Same H H' → W (.ref C) none σ H'
  | _ => False
def PostT (X : Cx) (W : WX) (σ : Sg) (H : Hp) (Q : Bool → Hp → Prop) : Rs Bool → Prop
  | .nx b => ∀ H', Same H H' → Q b H'
  | .exc n => ∀ C, X.mg n = some (.ref C) → ∀ H', Same H H' → W (.ref C) none σ H'
  | _ => False
def PostL (X : Cx) (W : WX) (k : Kd) (σ : Sg) (H : Hp) (Q : List V → Hp → Prop) : Rs (List D) → Prop
  | .nx ds => ∀ vs H', Same H H' → k.satL X.K H H' ds vs → Q vs H'
  | .exc n => ∀ C, X.mg n = some (.ref C) → ∀ H', Same H H' → W (.ref C) none σ H'
  | _ => False
/-- e, over the data ρ, answers o -/
def Ev (X : Cx) (W : WX) (k : Kd) (e : Expr) (ρ : List (Option D)) (o : Rs D) : Prop :=
  ∀ (σ : Sg) (H : Hp) (Q : VK), RdF X.K H σ ρ → PostE X W k σ H Q o → wE X e σ H Q
def EvT (X : Cx) (W : WX) (e : Expr) (ρ : List (Option D)) (o : Rs Bool) : Prop :=
  ∀ (σ : Sg) (H : Hp) (Q : Bool → Hp → Prop), RdF X.K H σ ρ → PostT X W σ H Q o → wT X e σ H Q
def EvL (X : Cx) (W : WX) (k : Kd) (es : List Expr) (ρ : List (Option D)) (o : Rs (List D)) : Prop :=
  ∀ (σ : Sg) (H : Hp) (Q : List V → Hp → Prop), RdF X.K H σ ρ → PostL X W k σ H Q o → wA X es σ H Q
section
variable {X : Cx} {W : WX} {k : Kd} {σ : Sg} {H H1 : Hp} {Q Q' : VK}
theorem PostE.at {o : Rs D} (h : PostE X W k σ H Q o) (sm : Same H H1) : PostE X W k σ H1 Q o := by
  cases o with
  | nx d => exact fun v H' s2 q => h v H' (sm.trans s2) (q.back sm)
  | exc n => exact fun C hc H' s2 => h C hc H' (sm.trans s2)
  | _ => exact h
theorem PostT.at {o : Rs Bool} {Q : Bool → Hp → Prop} (h : PostT X W σ H Q o) (sm : Same H H1) : PostT X W σ H1 Q o := by
  cases o with
  | nx d => exact fun H' s2 => h H' (sm.trans s2)
  | exc n => exact fun C hc H' s2 => h C hc H' (sm.trans s2)
  | _ => exact h
theorem Kd.satL.back {K : PySem.W.Frag} {H' : Hp} (sm : Same H H1) : ∀ {k : Kd} {ds : List D} {vs : List V}, k.satL K H1 H' ds vs → k.satL K H H' ds vs
  | .R, _, _, h => h
  | .O n, _, _, ⟨F, o, nd, fr⟩ => ⟨F, o, nd, fun a m => sm.free (fr a m)⟩
theorem PostL.at {o : Rs (List D)} {Q : List V → Hp → Prop} (h : PostL X W k σ H Q o) (sm : Same H H1) : PostL X W k σ H1 Q o := by
  cases o with
  | nx d => exact fun v H' s2 q => h v H' (sm.trans s2) (q.back sm)
  | exc n => exact fun C hc H' s2 => h C hc H' (sm.trans s2)
  | _ => exact h
/-- a first expression of a row -/
theorem PostE.of {o : Rs D} {C : Prop} (hn : ∀ d, o = .nx d → ∀ v H', Same H H' → k.sat X.K H H' d v → Q v H')
    (he : ∀ n, o = .exc n → ∀ C, X.mg n = some (.ref C) → ∀ H', Same H H' → W (.ref C) none σ H') (hr : (∀ d, o ≠ .nx d) → (∀ n, o ≠ .exc n) → False) : PostE X W k σ H Q o := by
  cases o with
  | nx d => exact hn d rfl
  | exc n => exact he n rfl
  | err => exact hr (fun _ z => by cases z) (fun _ z => by cases z)
/-- e, then something more by its value: R wants an answer of the whole -/
theorem Ev.thenE {e : Expr} {ρ : List (Option D)} {o : Rs D} {γ : Type} {g : D → Rs γ} {R : Hp → Rs γ → Prop}
    (ha : Ev X W k e ρ o) (hρ : RdF X.K H σ ρ) (h : R H (o.bind g)) (hR : ∀ H1 p, Same H H1 → R H p → R H1 p) (hexc : ∀ n, R H (.exc n) → ∀ C, X.mg n = some (.ref C) → ∀ H', Same H H' → W (.ref C) none σ H')
    (h0 : R H .err → False) 
    (hn : ∀ d v H1, Same H H1 → k.sat X.K H H1 d v → R H1 (g d) → Q' v H1) : wE X e σ H Q' := by
  refine ha σ H Q' hρ ?_
  cases o with
  | nx d => exact fun v H' sm q => hn d v H' sm q (hR _ _ sm h)
  | exc n => exact hexc n h
  | err => exact h0 h
/-- .. where the whole is an expression -/
theorem Ev.then {e : Expr} {ρ : List (Option D)} {k' : Kd} {o : Rs D} {g : D → Rs D} (ha : Ev X W k e ρ o) (hρ : RdF X.K H σ ρ) (h : PostE X W k' σ H Q (o.bind g))
    (hn : ∀ d v H1, Same H H1 → k.sat X.K H H1 d v → PostE X W k' σ H1 Q (g d) → Q' v H1) : wE X e σ H Q' :=
  Ev.thenE (R := fun H o => PostE X W k' σ H Q o) ha hρ h (fun _ _ sm q => q.at sm) (fun _ q => q) (fun q => q) hn
/-- .. where the whole is a test -/
theorem Ev.thenT {e : Expr} {ρ : List (Option D)} {Q : Bool → Hp → Prop} {o : Rs D} {g : D → Rs Bool} (ha : Ev X W k e ρ o) (hρ : RdF X.K H σ ρ) (h : PostT X W σ H Q (o.bind g))
    (hn : ∀ d v H1, Same H H1 → k.sat X.K H H1 d v → PostT X W σ H1 Q (g d) → Q' v H1) : wE X e σ H Q' :=
  Ev.thenE (R := fun H o => PostT X W σ H Q o) ha hρ h (fun _ _ sm q => q.at sm) (fun _ q => q) (fun q => q) hn
theorem Ev.thenL {e : Expr} {ρ : List (Option D)} {k' : Kd} {Q : List V → Hp → Prop} {o : Rs D} {g : D → Rs (List D)} (ha : Ev X W k e ρ o) (hρ : RdF X.K H σ ρ) (h : PostL X W k' σ H Q (o.bind g))
    (hn : ∀ d v H1, Same H H1 → k.sat X.K H H1 d v → PostL X W k' σ H1 Q (g d) → Q' v H1) : wE X e σ H Q' :=
  Ev.thenE (R := fun H o => PostL X W k' σ H Q o) ha hρ h (fun _ _ sm q => q.at sm) (fun _ q => q) (fun q => q) hn
/-- a test, then something more -/
theorem EvT.thenE {e : Expr} {ρ : List (Option D)} {o : Rs Bool} {γ : Type} {g : Bool → Rs γ} {R : Hp → Rs γ → Prop} {Q' : Bool → Hp → Prop}
    (ha : EvT X W e ρ o) (hρ : RdF X.K H σ ρ) (h : R H (o.bind g)) (hR : ∀ H1 p, Same H H1 → R H p → R H1 p) (hexc : ∀ n, R H (.exc n) → ∀ C, X.mg n = some (.ref C) → ∀ H', Same H H' → W (.ref C) none σ H')
    (h0 : R H .err → False) 
    (hn : ∀ b H1, Same H H1 → R H1 (g b) → Q' b H1) : wT X e σ H Q' := by
  refine ha σ H Q' hρ ?_
  cases o with
  | nx d => exact fun H' sm => hn d H' sm (hR _ _ sm h)
  | exc n => exact hexc n h
  | err => exact h0 h
theorem EvT.thenT {e : Expr} {ρ : List (Option D)} {Q Q' : Bool → Hp → Prop} {o : Rs Bool} {g : Bool → Rs Bool} (ha : EvT X W e ρ o) (hρ : RdF X.K H σ ρ) (h : PostT X W σ H Q (o.bind g))
    (hn : ∀ b H1, Same H H1 → PostT X W σ H1 Q (g b) → Q' b H1) : wT X e σ H Q' :=
  EvT.thenE (R := fun H o => PostT X W σ H Q o) ha hρ h (fun _ _ sm q => q.at sm) (fun _ q => q) (fun q => q) hn
theorem EvT.then {e : Expr} {ρ : List (Option D)} {Q : VK} {Q' : Bool → Hp → Prop} {o : Rs Bool} {g : Bool → Rs D} (ha : EvT X W e ρ o) (hρ : RdF X.K H σ ρ) (h : PostE X W k σ H Q (o.bind g))
    (hn : ∀ b H1, Same H H1 → PostE X W k σ H1 Q (g b) → Q' b H1) : wT X e σ H Q' :=
  EvT.thenE (R := fun H o => PostE X W k σ H Q o) ha hρ h (fun _ _ sm q => q.at sm) (fun _ q => q) (fun q => q) hn
theorem EvL.then {es : List Expr} {ρ : List (Option D)} {k' : Kd} {Q' : List V → Hp → Prop} {o : Rs (List D)} {g : List D → Rs D} (ha : EvL X W k es ρ o) (hρ : RdF X.K H σ ρ) (h : PostE X W k' σ H Q (o.bind g))
    (hn : ∀ ds vs H1, Same H H1 → k.satL X.K H H1 ds vs → PostE X W k' σ H1 Q (g ds) → Q' vs H1) : wA X es σ H Q' := by
  refine ha σ H Q' hρ ?_
  cases o with
  | nx d => exact fun v H' sm q => hn d v H' sm q (PostE.at h sm)
  | exc n => exact h
  | err => exact h
end
section
variable {X : Cx} {W : WX} {k : Kd} {ρ : List (Option D)} {a b e : Expr} {es : List Expr} {pos : Pos}
/-! ### names, constants -/
theorem ev_var {x : Str} {d : D} (i : Nat) (hρ : ρ[i]? = some (some d) := by rfl) (hN : X.N[i]? = some x := by rfl)
    (hv : Vis X.env.scope x := by first | exact Or.inl rfl | exact Or.inr (Or.inl rfl) | exact Or.inr (Or.inr rfl)) (hd : (x == ("__debug__" : Str)) = false := by decide)
    (hcd : (x == ("__classdict__" : Str)) = false := by decide) : Ev X W .R (.Name x pos) ρ (.nx d : Rs D) := fun σ H Q hr h => by
  obtain ⟨v, h1, h2⟩ := hr.get i d hρ
  exact wE.of (pe_var hN hv hd hcd) ⟨v, h1, h v H (Same.refl _) h2⟩
/-- a value that owns nothing may be held in any way -/
def at? (d : D) : Rs D := if d.atom = true then .nx d else .err
theorem Ev.atom {o : Rs D} (h : Ev X W .R e ρ o) : Ev X W k e ρ (o.bind at?) := fun σ H Q hr q =>
  h.then hr q fun d v H1 sm r p => by
    unfold at? at p
    by_cases c : d.atom = true
    · rw [if_pos c] at p
      exact p v H1 (Same.refl _) (Kd.atom c (Kd.sat.rep r) k)
    · rw [if_neg c] at p
      exact p.elim
theorem Ev.toR {o : Rs D} (h : Ev X W k e ρ o) : Ev X W .R e ρ o := fun σ H Q hr q => by
  refine h σ H Q hr ?_
  cases o with
  | nx d => exact fun v H' sm r => q v H' sm r.rep
  | exc n => exact q
  | _ => exact q
theorem ev_int {i : Int} {j : Nat} : Ev X W k (.Constant (.int i) j pos) ρ (.nx (.int i) : Rs D) := fun σ H Q hr h =>
  wE.of pe_int (h _ H (Same.refl _) (Kd.atom rfl (H2 := H) (by unfold Rep; rfl) k))
theorem ev_bl {c : Bool} {j : Nat} : Ev X W k (.Constant (.bool c) j pos) ρ (.nx (.bl c) : Rs D) := fun σ H Q hr h =>
  wE.of pe_bl (h _ H (Same.refl _) (Kd.atom rfl (H2 := H) (by unfold Rep; rfl) k))
theorem ev_non {j : Nat} : Ev X W k (.Constant .none j pos) ρ (.nx .non : Rs D) := fun σ H Q hr h =>
  wE.of pe_non (h _ H (Same.refl _) (Kd.atom rfl (H2 := H) (by unfold Rep; rfl) k))
theorem ev_str {s : Str} {j : Nat} : Ev X W k (.Constant (.str s) j pos) ρ (.nx (.str s) : Rs D) := fun σ H Q hr h =>
  wE.of pe_str (h _ H (Same.refl _) (Kd.atom rfl (H2 := H) (by unfold Rep; rfl) k))
/-! ### operators -/
/-- what an operator answers, and its rule -/
def Op2 (X : Cx) (r : R2) (k : Kd) (f : D → D → Rs D) : Prop := ∀ (W : WX) (σ : Sg) (H : Hp) (Q : VK) (x y : D) (v w : V), Rep X.K H x v → Rep X.K H y w → PostE X W k σ H Q (f x y) → r v w H Q
theorem ev_op {op : Operator} {r : R2} {f : D → D → Rs D} {oa ob : Rs D} (ho : OpR X (binaryOp op) r) (hf : Op2 X r k f) (ha : Ev X W .R a ρ oa) (hb : Ev X W .R b ρ ob) :
    Ev X W k (.BinOp a op b pos) ρ (oa.bind fun x => ob.bind fun y => f x y) := fun σ H Q hr h => by
  refine wE.of (pe_op ho (wE.pe X a) (wE.pe X b)) ?_
  show wE X a σ H _
  refine ha.then hr h fun x v H1 s1 rx h1 => ?_
  refine hb.then (hr.mono s1) h1 fun y w H2 s2 ry h2 => ?_
  exact hf W σ H2 Q x y v w (Rep.mono s2 _ _ rx) ry h2
/-- what it is of two whole numbers -/
def intD (g : Int → Int → Int) : D → D → Rs D
  | .int i, .int j => .nx (.int (g i j))
  | _, _ => .err
def intC (c : Int → Int → Bool) (g : Int → Int → Int) : D → D → Rs D
  | .int i, .int j => if c i j = true then .nx (.int (g i j)) else .err
  | _, _ => .err
theorem op2_int {g : Int → Int → Int} : Op2 X (rI0 fun i j => .int (g i j)) k (intD g) := fun W σ H Q x y v w rx ry h => by
  cases x <;> cases y <;> first | exact h.elim | skip
  unfold Rep at rx ry
  exact ⟨_, _, rx, ry, h _ H (Same.refl _) (Kd.atom rfl (H2 := H) (by unfold Rep; rfl) k)⟩
theorem op2_intC {C : Int → Int → Prop} {c : Int → Int → Bool} {g : Int → Int → Int} (hc : ∀ i j, c i j = true → C i j) : Op2 X (rI C fun i j => .int (g i j)) k (intC c g) := fun W σ H Q x y v w rx ry h => by
  cases x <;> cases y <;> first | exact h.elim | skip
  rename_i i j
  unfold Rep at rx ry
  by_cases e : c i j = true
  · have h : PostE X W k σ H Q (if c i j = true then (Rs.nx (D.int (g i j)) : Rs D) else .err) := h
    rw [if_pos e] at h
    exact ⟨_, _, rx, ry, hc i j e, h _ H (Same.refl _) (Kd.atom rfl (H2 := H) (by unfold Rep; rfl) k)⟩
  · have h : PostE X W k σ H Q (if c i j = true then (Rs.nx (D.int (g i j)) : Rs D) else .err) := h
    rw [if_neg e] at h
    exact h.elim
/-- a + b: numbers, texts, lists -/
def addD : D → D → Rs D
  | .int i, .int j => .nx (.int (i + j))
  | .str s, .str t => if s.length + t.length ≤ sizeLine then .nx (.str (s ++ t)) else .err
  | .lst xs, .lst ys => if xs.length + ys.length ≤ sizeLine then .nx (.lst (xs ++ ys)) else .err
  | _, _ => .err
def addR : R2 := fun x y H Q => (rI0 (fun i j => .int (i + j)) x y H Q) ∨ ((∃ i j, x = .str i ∧ y = .str j ∧ i.length + j.length ≤ sizeLine ∧ Q (.str (i ++ j)) H) ∨ rCat x y H Q)
theorem addR_ok : OpR X (binaryOp .Add) addR := op_add.or (op_add_str.or op_cat)
theorem op2_add : Op2 X addR .R addD := fun W σ H Q x y v w rx ry h => by
  cases x <;> cases y <;> first | exact h.elim | skip
  · unfold Rep at rx ry
    exact .inl ⟨_, _, rx, ry, h _ H (Same.refl _) (by unfold Kd.sat Rep; rfl)⟩
  · rename_i s t
    unfold Rep at rx ry
    unfold addD at h
    by_cases e : s.length + t.length ≤ sizeLine
    · simp only [if_pos e] at h
      exact .inr (.inl ⟨_, _, rx, ry, e, h _ H (Same.refl _) (by unfold Kd.sat Rep; rfl)⟩)
    · simp only [if_neg e] at h
      exact h.elim
  · rename_i xs ys
    unfold Rep at rx ry
    unfold addD at h
    obtain ⟨p, vs, e1, hp, r1⟩ := rx
    obtain ⟨q, us, e2, hq, r2⟩ := ry
    by_cases e : xs.length + ys.length ≤ sizeLine
    · simp only [if_pos e] at h
      refine .inr (.inr ⟨p, q, vs, us, e1, e2, hp, hq, by rw [r1.len, r2.len]; exact e, fun l hl => ?_⟩)
      have sm : Same H (upd H l (.lst (vs ++ us))) := fun b o z => by rw [upd_ne (ne_of_none z hl)]; exact z
      refine h _ _ sm ?_
      unfold Kd.sat Rep
      exact ⟨l, _, rfl, upd_same, RepL.append (RepL.mono sm _ _ r1) (RepL.mono sm _ _ r2)⟩
    · simp only [if_neg e] at h
      exact h.elim
theorem ev_add {oa ob : Rs D} (ha : Ev X W .R a ρ oa) (hb : Ev X W .R b ρ ob) : Ev X W .R (.BinOp a .Add b pos) ρ (oa.bind fun x => ob.bind fun y => addD x y) := ev_op addR_ok op2_add ha hb
theorem ev_addI {oa ob : Rs D} (ha : Ev X W .R a ρ oa) (hb : Ev X W .R b ρ ob) : Ev X W k (.BinOp a .Add b pos) ρ (oa.bind fun x => ob.bind fun y => intD (· + ·) x y) := ev_op op_add op2_int ha hb
/-- lists of flat things: a new list -/
def catD : D → D → Rs D
  | .lst xs, .lst ys => if xs.length + ys.length ≤ sizeLine ∧ xs.all D.atom = true ∧ ys.all D.atom = true then .nx (.lst (xs ++ ys)) else .err
  | _, _ => .err
theorem op2_cat {n : Nat} : Op2 X rCat (.O (n + 1)) catD := fun W σ H Q x y v w rx ry h => by
  cases x <;> cases y <;> first | exact h.elim | skip
  rename_i xs ys
  unfold Rep at rx ry
  unfold catD at h
  obtain ⟨p, vs, e1, hp, r1⟩ := rx
  obtain ⟨q, us, e2, hq, r2⟩ := ry
  by_cases e : xs.length + ys.length ≤ sizeLine ∧ xs.all D.atom = true ∧ ys.all D.atom = true
  · simp only [if_pos e] at h
    refine ⟨p, q, vs, us, e1, e2, hp, hq, by rw [r1.len, r2.len]; exact e.1, fun l hl => ?_⟩
    have sm : Same H (upd H l (.lst (vs ++ us))) := fun b o z => by rw [upd_ne (ne_of_none z hl)]; exact z
    refine h _ _ sm ⟨[l], ⟨l, _, [], rfl, upd_same, ?_, rfl⟩, by simp, fun a m => by simp at m; rw [m]; exact hl⟩
    exact all_atoms (H := H) (by rw [List.all_append, e.2.1, e.2.2]; rfl) (RepL.append r1 r2)
  · simp only [if_neg e] at h
    exact h.elim
theorem ev_cat {n : Nat} {oa ob : Rs D} (ha : Ev X W .R a ρ oa) (hb : Ev X W .R b ρ ob) : Ev X W (.O (n + 1)) (.BinOp a .Add b pos) ρ (oa.bind fun x => ob.bind fun y => catD x y) := ev_op op_cat op2_cat ha hb
theorem ev_sub {oa ob : Rs D} (ha : Ev X W .R a ρ oa) (hb : Ev X W .R b ρ ob) : Ev X W k (.BinOp a .Sub b pos) ρ (oa.bind fun x => ob.bind fun y => intD (· - ·) x y) := ev_op op_sub op2_int ha hb
def small64 (i : Int) : Bool := decide (-(2 ^ 64) < i) && decide (i < 2 ^ 64)
def mulD : D → D → Rs D := intC (fun i j => small64 i || small64 j) (· * ·)
theorem ev_mul {oa ob : Rs D} (ha : Ev X W .R a ρ oa) (hb : Ev X W .R b ρ ob) : Ev X W k (.BinOp a .Mult b pos) ρ (oa.bind fun x => ob.bind fun y => mulD x y) :=
  ev_op op_mul (op2_intC fun i j h => by
    simp only [small64, Bool.or_eq_true, Bool.and_eq_true, decide_eq_true_eq] at h
    exact h) ha hb
def modD : D → D → Rs D := intC (fun _ j => decide (0 < j)) (· % ·)
theorem ev_mod {oa ob : Rs D} (ha : Ev X W .R a ρ oa) (hb : Ev X W .R b ρ ob) : Ev X W k (.BinOp a .Mod b pos) ρ (oa.bind fun x => ob.bind fun y => modD x y) :=
  ev_op op_mod (op2_intC fun i j h => by simpa using h) ha hb
def divD : D → D → Rs D := intC (fun _ j => decide (0 < j) && decide (j < 1073741824)) (· / ·)
theorem ev_div {oa ob : Rs D} (ha : Ev X W .R a ρ oa) (hb : Ev X W .R b ρ ob) : Ev X W k (.BinOp a .FloorDiv b pos) ρ (oa.bind fun x => ob.bind fun y => divD x y) :=
  ev_op op_fdiv (op2_intC fun i j h => by
    simp only [Bool.and_eq_true, decide_eq_true_eq] at h
    exact h) ha hb
def powD : D → D → Rs D := intC (fun i j => decide (0 ≤ j) && (decide (j ≤ 1000000) && decide (i.natAbs < 2 ^ 64))) (fun i j => i ^ j.toNat)
theorem ev_pow {oa ob : Rs D} (ha : Ev X W .R a ρ oa) (hb : Ev X W .R b ρ ob) : Ev X W k (.BinOp a .Pow b pos) ρ (oa.bind fun x => ob.bind fun y => powD x y) :=
  ev_op op_pow (op2_intC fun i j h => by
    simp only [Bool.and_eq_true, decide_eq_true_eq] at h
    exact h) ha hb
def negD : D → Rs D
  | .int i => .nx (.int (-i))
  | _ => .err
theorem ev_neg {oa : Rs D} (ha : Ev X W .R a ρ oa) : Ev X W k (.UnaryOp .USub a pos) ρ (oa.bind fun x => negD x) := fun σ H Q hr h => by
  refine wE.of (pe_un un_neg (wE.pe X a)) ?_
  show wE X a σ H _
  refine ha.then hr h fun x v H1 s1 rx h1 => ?_
  cases x <;> first | exact h1.elim | skip
  have rx : Rep X.K H1 (.int _) v := rx
  unfold Rep at rx
  exact ⟨_, rx, h1 _ H1 (Same.refl _) (Kd.atom rfl (H2 := H1) (by unfold Rep; rfl) k)⟩
/-! ### items -/
def asSeq : D → Option (List D)
  | .lst xs => some xs
  | .tup xs => some xs
  | .scr ns => some (ns.map D.int)
  | _ => none
def ixD : D → D → Rs D
  | .str z, .int i => if z.length ≤ sizeLine then (match atI z.cps.toList i with | some c => .nx (.str ⟨#[c]⟩) | none => .err) else .err
  | x, .int i => match asSeq x with
    | some ds => match atI ds i with
      | some d => .nx d
      | none => .err
    | none => .err
  | _, _ => .err
theorem atI_rep {K : PySem.W.Frag} {H : Hp} {ds : List D} {vs : List V} {i : Int} {d : D} (r : RepL K H ds vs) (h : atI ds i = some d) : ∃ v, atI vs i = some v ∧ Rep K H d v := by
  unfold atI at h ⊢
  rw [r.len]
  cases e : ixN ds.length i with
  | none => rw [e] at h; cases h
  | some j =>
    rw [e] at h
    exact r.get h
theorem op2_ix : Op2 X (rIx X.K) .R ixD := fun W σ H Q x y v w rx ry h => by
  cases y <;> first | (cases x <;> exact h.elim) | skip
  rename_i i
  unfold Rep at ry
  have seq : ∀ {x : D} {ds : List D}, asSeq x = some ds → Rep X.K H x v → PostE X W .R σ H Q (match atI ds i with | some d => (Rs.nx d : Rs D) | none => .err) → rIx X.K v w H Q := fun {x ds} ha rx h => by
    cases e : atI ds i with
    | none => rw [e] at h; exact h.elim
    | some d =>
      rw [e] at h
      have h : ∀ v H', Same H H' → Rep X.K H' d v → Q v H' := h
      cases x <;> first | (simp [asSeq] at ha) | skip
      · subst ha
        unfold Rep at rx
        obtain ⟨p, vs, e1, hp, r⟩ := rx
        obtain ⟨u, hu, ru⟩ := atI_rep r e
        exact .inl ⟨p, vs, i, u, e1, ry, SqL.of hp, hu, h u H (Same.refl _) ru⟩
      · subst ha
        unfold Rep at rx
        obtain ⟨p, vs, e1, hp, r⟩ := rx
        obtain ⟨u, hu, ru⟩ := atI_rep r e
        exact .inr (.inl ⟨p, vs, i, u, e1, ry, SqT.of hp, hu, h u H (Same.refl _) ru⟩)
      · subst ha
        unfold Rep at rx
        obtain ⟨p, e1, hp⟩ := rx
        obtain ⟨u, hu, ru⟩ := atI_rep (K := X.K) (H := H) (RepL.ints.mpr rfl) e
        exact .inl ⟨p, _, i, u, e1, ry, hp, hu, h u H (Same.refl _) ru⟩
  cases x <;> first | exact h.elim | exact seq rfl rx h | skip
  rename_i z
  unfold Rep at rx
  unfold ixD at h
  by_cases c : z.length ≤ sizeLine
  · simp only [if_pos c] at h
    cases e : atI z.cps.toList i with
    | none => rw [e] at h; exact h.elim
    | some q =>
      rw [e] at h
      exact .inr (.inr ⟨z, i, q, rx, ry, c, e, h _ H (Same.refl _) (by unfold Kd.sat Rep; rfl)⟩)
  · simp only [if_neg c] at h
    exact h.elim
theorem ev_ix {oa ob : Rs D} (ha : Ev X W .R a ρ oa) (hb : Ev X W .R b ρ ob) (hs : PlainIx b := by exact (fun _ _ => rfl)) : Ev X W .R (.Subscript a b pos) ρ (oa.bind fun x => ob.bind fun y => ixD x y) := fun σ H Q hr h => by
  refine wE.of (pe_ix ix_seq (wE.pe X a) (wE.pe X b) hs) ?_
  show wE X a σ H _
  refine ha.then hr h fun x v H1 s1 rx h1 => ?_
  refine hb.then (hr.mono s1) h1 fun y w H2 s2 ry h2 => ?_
  exact op2_ix W σ H2 Q x y v w (Rep.mono s2 _ _ rx) ry h2
end
end Sw

/- part SwCmp -/
/-! Comparisons, tests, and, or, not; calls of built-ins; slices. -/
namespace Sw
open PySem PySem.Spec PyProof.Rows L2

mutual
def toP : D → PyData
  | .non => .none
  | .bl b => .bool b
  | .int i => .int i
  | .str s => .str s
  | .lst ds => .list (toPs ds)
  | .tup ds => .tuple (toPs ds)
  | .scr _ => .dict []
  | .hole => .dict []
  | .ex _ => .dict []
  | .pin _ _ => .dict []
def toPs : List D → List PyData
  | [] => []
  | d :: ds => toP d :: toPs ds
end
theorem toPs_map : ∀ ds : List D, toPs ds = ds.map toP
  | [] => by simp [toPs]
  | d :: ds => by simp [toPs, toPs_map ds]
section
variable {K : PySem.W.Frag} {H : Hp}
mutual
theorem Rep.dp : ∀ (d : D) (v : V), (toP d).canLay0 = true → Rep K H d v → Dp K H v (toP d)
  | .non, v, _, h => by unfold Rep at h; rw [h]; exact .non
  | .bl b, v, _, h => by unfold Rep at h; rw [h]; exact .bl b
  | .int i, v, _, h => by unfold Rep at h; rw [h]; exact .int i
  | .str s, v, _, h => by unfold Rep at h; rw [h]; exact .str s
  | .lst ds, v, c, h => by
    unfold Rep at h
    obtain ⟨a, vs, e, ha, r⟩ := h
    rw [e]
    unfold toP at c ⊢
    exact .lst (SqL.of ha) (RepL.dp ds vs (by unfold PyData.canLay0 at c; exact c) r)
  | .tup ds, v, c, h => by
    unfold Rep at h
    obtain ⟨a, vs, e, ha, r⟩ := h
    rw [e]
    unfold toP at c ⊢
    exact .tup (SqT.of ha) (RepL.dp ds vs (by unfold PyData.canLay0 at c; exact c) r)
  | .scr ns, v, c, h => by unfold toP PyData.canLay0 at c; cases c
  | .hole, v, c, h => by unfold toP PyData.canLay0 at c; cases c
  | .ex _, v, c, h => by unfold toP PyData.canLay0 at c; cases c
  | .pin _ _, v, c, h => by unfold toP PyData.canLay0 at c; cases c
theorem RepL.dp : ∀ (ds : List D) (vs : List V), PyData.canLayAll0 (toPs ds) = true → RepL K H ds vs → DpAll K H vs (toPs ds)
  | [], vs, _, h => by unfold RepL at h; rw [h]; unfold toPs; exact .nil
  | d :: ds, vs, c, h => by
    unfold RepL at h
    obtain ⟨v, vs', e, r1, r2⟩ := h
    rw [e]
    unfold toPs PyData.canLayAll0 at c
    unfold toPs
    rw [Bool.and_eq_true] at c
    exact .cons (Rep.dp d v c.1 r1) (RepL.dp ds vs' c.2 r2)
end
end

/-! ### comparisons -/
def CmpO (X : Cx) (r : R2) (f : D → D → Option Bool) : Prop := ∀ (H : Hp) (Q : VK) (x y : D) (v w : V) (b : Bool), Rep X.K H x v → Rep X.K H y w → f x y = some b → Q (.bl b) H → r v w H Q
def ofO : Option Bool → Rs Bool
  | some b => .nx b
  | none => .err
def ofB : Option Bool → Rs D
  | some b => .nx (.bl b)
  | none => .err
@[simp] theorem ofO_some (b : Bool) : ofO (some b) = .nx b := id rfl
@[simp] theorem ofB_some (b : Bool) : ofB (some b) = .nx (.bl b) := id rfl
section
variable {X : Cx} {W : WX} {k : Kd} {ρ : List (Option D)} {a b e : Expr} {es : List Expr} {pos : Pos}
theorem ev_cmp {op : CmpOp} {r : R2} {f : D → D → Option Bool} {oa ob : Rs D} (ho : OpR X (compareOp op) r) (hf : CmpO X r f) (ha : Ev X W .R a ρ oa) (hb : Ev X W .R b ρ ob) (hm : behindInMarks op b = false) :
    Ev X W k (.Compare a [op] [b] pos) ρ (oa.bind fun x => ob.bind fun y => ofB (f x y)) := fun σ H Q hr h => by
  refine wE.of (pe_cmpR ho (wE.pe X a) (wE.pe X b) hm) ?_
  show wE X a σ H _
  refine ha.then hr h fun x v H1 s1 rx h1 => ?_
  refine hb.then (hr.mono s1) h1 fun y w H2 s2 ry h2 => ?_
  cases e : f x y with
  | none => rw [e] at h2; exact h2.elim
  | some c =>
    rw [e] at h2
    exact hf H2 Q x y v w c (Rep.mono s2 _ _ rx) ry e (h2 _ H2 (Same.refl _) (Kd.atom rfl (H2 := H2) (by unfold Rep; rfl) k))
theorem evT_cmp {op : CmpOp} {r : R2} {f : D → D → Option Bool} {oa ob : Rs D} (ho : OpR X (compareOp op) r) (hf : CmpO X r f) (ha : Ev X W .R a ρ oa) (hb : Ev X W .R b ρ ob) (hm : behindInMarks op b = false) :
    EvT X W (.Compare a [op] [b] pos) ρ (oa.bind fun x => ob.bind fun y => ofO (f x y)) := fun σ H Q hr h => by
  refine wT.of (pt_cmpR ho (wE.pe X a) (wE.pe X b) hm) ?_
  show wE X a σ H _
  refine ha.thenT hr h fun x v H1 s1 rx h1 => ?_
  refine hb.thenT (hr.mono s1) h1 fun y w H2 s2 ry h2 => ?_
  cases e : f x y with
  | none => rw [e] at h2; exact h2.elim
  | some c =>
    rw [e] at h2
    exact hf H2 _ x y v w c (Rep.mono s2 _ _ rx) ry e ⟨c, rfl, h2 H2 (Same.refl _)⟩
def cmpI (g : Int → Int → Bool) : D → D → Option Bool
  | .int i, .int j => some (g i j)
  | _, _ => none
theorem cmp_int {g : Int → Int → Bool} : CmpO X (rI0 fun i j => .bl (g i j)) (cmpI g) := fun H Q x y v w c rx ry e q => by
  cases x <;> cases y <;> first | (simp [cmpI] at e; done) | skip
  unfold Rep at rx ry
  simp [cmpI] at e
  subst e
  exact ⟨_, _, rx, ry, q⟩
def ltO := cmpI fun i j => decide (i < j)
def leO := cmpI fun i j => decide (i ≤ j)
def gtO := cmpI fun i j => decide (j < i)
def geO := cmpI fun i j => decide (j ≤ i)
/-- == of data -/
def eqO (x y : D) : Option Bool := if SeqAt.shaped (toP x) = true ∧ SeqAt.shaped (toP y) = true then some (PyData.eqv (toP x) (toP y)) else none
def neO (x y : D) : Option Bool := (eqO x y).map (!·)
theorem cmp_eq : CmpO X (rEqD X.K) eqO := fun H Q x y v w c rx ry e q => by
  unfold eqO at e
  by_cases h : SeqAt.shaped (toP x) = true ∧ SeqAt.shaped (toP y) = true
  · rw [if_pos h] at e
    cases e
    exact ⟨_, _, Rep.dp x v (SeqAt.canLay_of_shaped h.1) rx, Rep.dp y w (SeqAt.canLay_of_shaped h.2) ry, h.1, h.2, q⟩
  · rw [if_neg h] at e
    cases e
theorem cmp_ne : CmpO X (rNeD X.K) neO := fun H Q x y v w c rx ry e q => by
  unfold neO eqO at e
  by_cases h : SeqAt.shaped (toP x) = true ∧ SeqAt.shaped (toP y) = true
  · rw [if_pos h] at e
    cases e
    exact ⟨_, _, Rep.dp x v (SeqAt.canLay_of_shaped h.1) rx, Rep.dp y w (SeqAt.canLay_of_shaped h.2) ry, h.1, h.2, q⟩
  · rw [if_neg h] at e
    cases e
/-- is None -/
def isN : D → Option Bool
  | .non => some true
  | .hole => none
  | .ex _ => none
  | .pin _ _ => none
  | _ => some false
def isO (x y : D) : Option Bool := match y with
  | .non => isN x
  | _ => none
def isntO (x y : D) : Option Bool := (isO x y).map (!·)
theorem isN_dec {K : PySem.W.Frag} {H : Hp} {x : D} {v : V} {c : Bool} (rx : Rep K H x v) (e : isN x = some c) : decide (v = .non) = c := by
  cases x <;> simp [isN] at e <;> unfold Rep at rx <;> subst e
  · rw [rx]; rfl
  · rw [rx]; rfl
  · rw [rx]; rfl
  · rw [rx]; rfl
  · obtain ⟨a, vs, e, _⟩ := rx; rw [e]; rfl
  · obtain ⟨a, vs, e, _⟩ := rx; rw [e]; rfl
  · obtain ⟨a, e, _⟩ := rx; rw [e]; rfl
theorem cmp_isN : CmpO X (fun x y H Q => y = .non ∧ Q (.bl (decide (x = .non))) H) isO := fun H Q x y v w c rx ry e q => by
  cases y <;> first | (simp [isO] at e; done) | skip
  unfold Rep at ry
  exact ⟨ry, by rw [isN_dec rx e]; exact q⟩
theorem cmp_isntN : CmpO X (fun x y H Q => y = .non ∧ Q (.bl (!decide (x = .non))) H) isntO := fun H Q x y v w c rx ry e q => by
  unfold isntO at e
  cases e' : isO x y with
  | none => rw [e'] at e; cases e
  | some d =>
    rw [e'] at e
    cases e
    cases y <;> first | (simp [isO] at e'; done) | skip
    unfold Rep at ry
    exact ⟨ry, by rw [isN_dec rx e']; exact q⟩
/-- is True -/
def isB (x y : D) : Option Bool := match x, y with
  | .bl a, .bl b => some (decide (a = b))
  | _, _ => none
def isntB (x y : D) : Option Bool := (isB x y).map (!·)
theorem cmp_isB : CmpO X (fun x y H Q => ∃ a b, x = .bl a ∧ y = .bl b ∧ Q (.bl (decide (a = b))) H) isB := fun H Q x y v w c rx ry e q => by
  cases x <;> cases y <;> first | (simp [isB] at e; done) | skip
  unfold Rep at rx ry
  cases e
  exact ⟨_, _, rx, ry, q⟩
theorem cmp_isntB : CmpO X (fun x y H Q => ∃ a b, x = .bl a ∧ y = .bl b ∧ Q (.bl (!decide (a = b))) H) isntB := fun H Q x y v w c rx ry e q => by
  cases x <;> cases y <;> first | (simp [isntB, isB] at e; done) | skip
  unfold Rep at rx ry
  cases e
  exact ⟨_, _, rx, ry, q⟩
/-- in, not in: a list of data -/
def inO (x y : D) : Option Bool := match y with
  | .lst ds => if SeqAt.shaped (toP x) = true ∧ SeqAt.shaped (toP (.lst ds)) = true then some ((toPs ds).any fun z => PyData.eqv z (toP x)) else none
  | _ => none
def ninO (x y : D) : Option Bool := (inO x y).map (!·)
theorem cmp_in : CmpO X (rInD X.K) inO := fun H Q x y v w c rx ry e q => by
  cases y <;> first | (simp [inO] at e; done) | skip
  rename_i ds
  have e : (if SeqAt.shaped (toP x) = true ∧ SeqAt.shaped (toP (.lst ds)) = true then some ((toPs ds).any fun z => PyData.eqv z (toP x)) else none) = some c := e
  by_cases h : SeqAt.shaped (toP x) = true ∧ SeqAt.shaped (toP (.lst ds)) = true
  · rw [if_pos h] at e
    cases e
    have e2 : toP (.lst ds) = .list (toPs ds) := by unfold toP; rfl
    have r2 := Rep.dp (.lst ds) w (SeqAt.canLay_of_shaped h.2) ry
    rw [e2] at r2 h
    exact ⟨_, _, Rep.dp x v (SeqAt.canLay_of_shaped h.1) rx, r2, h.1, h.2, q⟩
  · rw [if_neg h] at e
    cases e
theorem cmp_nin : CmpO X (rNotInD X.K) ninO := fun H Q x y v w c rx ry e q => by
  cases y <;> first | (simp [ninO, inO] at e; done) | skip
  rename_i ds
  have e : (if SeqAt.shaped (toP x) = true ∧ SeqAt.shaped (toP (.lst ds)) = true then some ((toPs ds).any fun z => PyData.eqv z (toP x)) else none).map (!·) = some c := e
  by_cases h : SeqAt.shaped (toP x) = true ∧ SeqAt.shaped (toP (.lst ds)) = true
  · rw [if_pos h] at e
    cases e
    have e2 : toP (.lst ds) = .list (toPs ds) := by unfold toP; rfl
    have r2 := Rep.dp (.lst ds) w (SeqAt.canLay_of_shaped h.2) ry
    rw [e2] at r2 h
    exact ⟨_, _, Rep.dp x v (SeqAt.canLay_of_shaped h.1) rx, r2, h.1, h.2, q⟩
  · rw [if_neg h] at e
    cases e
/-- one sign in a text, or not in it -/
def signO (x y : D) : Option Bool := match x, y with
  | .str s, .str z => match s.cps.toList with
    | [c] => some (decide (c ∈ z.cps.toList))
    | _ => none
  | _, _ => none
def nsignO (x y : D) : Option Bool := (signO x y).map (!·)
theorem str_one {s : Str} {c : Nat} (h : s.cps.toList = [c]) : s = ⟨#[c]⟩ := by
  obtain ⟨l⟩ := s
  have : l = #[c] := Array.toList_inj.mp h
  rw [this]
theorem cmp_nsign : CmpO X (fun x y H Q => ∃ (c : Nat) (z : Str), x = .str ⟨#[c]⟩ ∧ y = .str z ∧ Q (.bl (!decide (c ∈ z.cps.toList))) H) nsignO := fun H Q x y v w c rx ry e q => by
  cases x <;> cases y <;> first | (simp [nsignO, signO] at e; done) | skip
  rename_i s z
  unfold Rep at rx ry
  simp only [nsignO, signO] at e
  cases hs : s.cps.toList with
  | nil => rw [hs] at e; cases e
  | cons d t =>
    cases t with
    | nil =>
      rw [hs] at e
      cases e
      exact ⟨d, z, by rw [rx, str_one hs], ry, q⟩
    | cons _ _ => rw [hs] at e; cases e

/-! ### tests -/
def asB : D → Rs Bool
  | .bl b => .nx b
  | _ => .err
@[simp] theorem asB_bl (b : Bool) : asB (.bl b) = .nx b := id rfl
theorem evT_val {o : Rs D} (h : Ev X W .R e ρ o) (he : ∀ whole, isTrue e X.env whole = (do let v ← whole; standAt e.pos; holding [v] (truthy v)) := by intro _; rfl) : EvT X W e ρ (o.bind asB) := fun σ H Q hr q => by
  refine wT.of (pt_val (wE.pe X e) he) ?_
  show wE X e σ H _
  refine h.thenT hr q fun d v H1 sm r p => ?_
  cases d <;> first | exact p.elim | skip
  have r : Rep X.K H1 (.bl _) v := r
  unfold Rep at r
  exact ⟨_, r, p H1 (Same.refl _)⟩
def wW (X : Cx) (e : Expr) : TT := fun σ H Q => ∀ (whole : Sem Value) (pins : List (Addr × Obj)) (s : Shared), Inv X pins σ H s → wpAny (model X.prog X.w) X.A (isTrue e X.env whole) (TP X pins σ Q) X.xe s
theorem wW.pw (X : Cx) (e : Expr) : PW X e (wW X e) := ⟨fun wh pins s σ H Q I h => h wh pins s I⟩
theorem wW.of {X : Cx} {e : Expr} {t : TT} (p : PW X e t) {σ : Sg} {H : Hp} {Q : Bool → Hp → Prop} (h : t σ H Q) : wW X e σ H Q := fun wh pins s I => p.run wh pins s σ H Q I h
def EvW (X : Cx) (W : WX) (e : Expr) (ρ : List (Option D)) (o : Rs Bool) : Prop :=
  ∀ (σ : Sg) (H : Hp) (Q : Bool → Hp → Prop), RdF X.K H σ ρ → PostT X W σ H Q o → wW X e σ H Q
theorem EvW.t {o : Rs Bool} (h : EvW X W e ρ o) : EvT X W e ρ o := fun σ H Q hr q pins s I => h σ H Q hr q _ pins s I
theorem evW_and1 {o : Rs Bool} (h : EvT X W a ρ o) : EvW X W (.BoolOp .And [a] pos) ρ o := fun σ H Q hr q => wW.of (pw_and1 (wT.pt X a)) (h σ H Q hr q)
theorem evW_or1 {o : Rs Bool} (h : EvT X W a ρ o) : EvW X W (.BoolOp .Or [a] pos) ρ o := fun σ H Q hr q => wW.of (pw_or1 (wT.pt X a)) (h σ H Q hr q)
theorem evW_and {rest : List Expr} {oa ob : Rs Bool} (ha : EvT X W a ρ oa) (hb : EvW X W (.BoolOp .And (b :: rest) pos) ρ ob) :
    EvW X W (.BoolOp .And (a :: b :: rest) pos) ρ (oa.bind fun c => if c = true then ob else .nx false) := fun σ H Q hr q => by
  refine wW.of (pw_and (wT.pt X a) (wW.pw X _)) ?_
  show wT X a σ H _
  refine ha.thenT hr q fun c H1 sm p => ?_
  cases c with
  | true => exact if_pos rfl ▸ hb σ H1 Q (hr.mono sm) (by simpa using p)
  | false => exact (if_neg Bool.false_ne_true) ▸ (by simpa using p : PostT X W σ H1 Q (.nx false : Rs Bool)) H1 (Same.refl _)
theorem evW_or {rest : List Expr} {oa ob : Rs Bool} (ha : EvT X W a ρ oa) (hb : EvW X W (.BoolOp .Or (b :: rest) pos) ρ ob) :
    EvW X W (.BoolOp .Or (a :: b :: rest) pos) ρ (oa.bind fun c => if c = true then .nx true else ob) := fun σ H Q hr q => by
  refine wW.of (pw_or (wT.pt X a) (wW.pw X _)) ?_
  show wT X a σ H _
  refine ha.thenT hr q fun c H1 sm p => ?_
  cases c with
  | false => exact (if_neg Bool.false_ne_true) ▸ hb σ H1 Q (hr.mono sm) (by simpa using p)
  | true => exact if_pos rfl ▸ (by simpa using p : PostT X W σ H1 Q (.nx true : Rs Bool)) H1 (Same.refl _)
theorem evT_not {oa : Rs Bool} (ha : EvT X W a ρ oa) : EvT X W (.UnaryOp .Not a pos) ρ (oa.bind fun c => .nx (!c)) := fun σ H Q hr q => by
  refine wT.of (pt_not (wT.pt X a)) ?_
  show wT X a σ H _
  refine ha.thenT hr q fun c H1 sm p => ?_
  exact p H1 (Same.refl _)
/-! ### and, or, not as values -/
theorem ev_one {op : PySem.BoolOp} {o : Rs D} (h : Ev X W k a ρ o) : Ev X W k (.BoolOp op [a] pos) ρ o := fun σ H Q hr q => wE.of (pe_one (wE.pe X a)) (h σ H Q hr q)
def andD (x : D) (ob : Rs D) : Rs D := match x with
  | .bl true => ob
  | .bl false => .nx (.bl false)
  | _ => .err
def orD (x : D) (ob : Rs D) : Rs D := match x with
  | .bl false => ob
  | .bl true => .nx (.bl true)
  | _ => .err
def notD : D → Rs D
  | .bl b => .nx (.bl (!b))
  | _ => .err
theorem ev_and {rest : List Expr} {oa ob : Rs D} (ha : Ev X W .R a ρ oa) (hb : Ev X W k (.BoolOp .And (b :: rest) pos) ρ ob) : Ev X W k (.BoolOp .And (a :: b :: rest) pos) ρ (oa.bind fun x => andD x ob) := fun σ H Q hr q => by
  refine wE.of (pe_and (wE.pe X a) (wE.pe X _)) ?_
  show wE X a σ H _
  refine ha.then hr q fun x v H1 sm r p => ?_
  cases x <;> first | exact p.elim | skip
  rename_i c
  have r : Rep X.K H1 (.bl c) v := r
  unfold Rep at r
  refine ⟨c, r, ?_⟩
  cases c with
  | true => exact if_pos rfl ▸ hb σ H1 Q (hr.mono sm) p
  | false => exact (if_neg Bool.false_ne_true) ▸ (p : PostE X W k σ H1 Q (.nx (.bl false) : Rs D)) _ H1 (Same.refl _) (Kd.atom rfl (H2 := H1) (by unfold Rep; rfl) k)
theorem ev_or {rest : List Expr} {oa ob : Rs D} (ha : Ev X W .R a ρ oa) (hb : Ev X W k (.BoolOp .Or (b :: rest) pos) ρ ob) : Ev X W k (.BoolOp .Or (a :: b :: rest) pos) ρ (oa.bind fun x => orD x ob) := fun σ H Q hr q => by
  refine wE.of (pe_or (wE.pe X a) (wE.pe X _)) ?_
  show wE X a σ H _
  refine ha.then hr q fun x v H1 sm r p => ?_
  cases x <;> first | exact p.elim | skip
  rename_i c
  have r : Rep X.K H1 (.bl c) v := r
  unfold Rep at r
  refine ⟨c, r, ?_⟩
  cases c with
  | false => exact (if_neg Bool.false_ne_true) ▸ hb σ H1 Q (hr.mono sm) p
  | true => exact if_pos rfl ▸ (p : PostE X W k σ H1 Q (.nx (.bl true) : Rs D)) _ H1 (Same.refl _) (Kd.atom rfl (H2 := H1) (by unfold Rep; rfl) k)
theorem ev_not {oa : Rs D} (ha : Ev X W .R a ρ oa) : Ev X W k (.UnaryOp .Not a pos) ρ (oa.bind notD) := fun σ H Q hr q => by
  refine wE.of (pe_not (wE.pe X a)) ?_
  show wE X a σ H _
  refine ha.then hr q fun x v H1 sm r p => ?_
  cases x <;> first | exact p.elim | skip
  rename_i c
  have r : Rep X.K H1 (.bl c) v := r
  unfold Rep at r
  exact ⟨c, r, (p : PostE X W k σ H1 Q (.nx (.bl (!c)) : Rs D)) _ H1 (Same.refl _) (Kd.atom rfl (H2 := H1) (by unfold Rep; rfl) k)⟩
end
end Sw

/- part SwCall -/
/-! Arguments, displays, calls of built-ins and of defs, slices. -/
namespace Sw
open PySem PySem.Spec PyProof.Rows L2
theorem Kd.satL.cons {K : PySem.W.Frag} {H H1 H2 : Hp} {d : D} {ds : List D} {v : V} {vs : List V} (s1 : Same H H1) (s2 : Same H1 H2) : ∀ {k : Kd}, k.sat K H H1 d v → k.satL K H1 H2 ds vs → k.satL K H H2 (d :: ds) (v :: vs)
  | .R, h, r => RepL.cons (Rep.mono s2 _ _ h) r
  | .O n, ⟨F, o, nd, fr⟩, ⟨G, p, ndG, frG⟩ => by
    have o2 : Own K emp H2 n d v F := Own.congr (Same.refl _) (fun a m => by
      cases e : H1 a with
      | none => exact absurd e (Own.there o a m)
      | some x => exact s2 a x e) o
    refine ⟨F ++ G, ⟨v, vs, F, G, rfl, o2, p, rfl⟩, List.nodup_append.mpr ⟨nd, ndG, fun a ha b hb e => ?_⟩, fun a m => ?_⟩
    · subst e
      exact Own.there o a ha (frG a hb)
    · rcases List.mem_append.mp m with m | m
      · exact fr a m
      · exact s1.free (frG a m)
/-- an owned list's or tuple's own object around what it holds -/
theorem sat_lst {K : PySem.W.Frag} {H H1 : Hp} {n : Nat} {ds : List D} {vs : List V} {p : Addr} (s : Same H H1) (hp : H1 p = none) (h : (Kd.O n).satL K H H1 ds vs) : (Kd.O (n + 1)).sat K H (upd H1 p (.lst vs)) (.lst ds) (.ref p) := by
  obtain ⟨F, o, nd, fr⟩ := h
  have hF : p ∉ F := fun m => o.there p m hp
  exact ⟨p :: F, ⟨p, vs, F, rfl, upd_same, AllF.impIn (fun d v G m q => Own.congr (Same.refl _) (fun a ha => upd_ne (fun z => by subst z; exact hF (m _ ha))) q) o, rfl⟩, List.nodup_cons.mpr ⟨hF, nd⟩, fun a m => by
    rcases List.mem_cons.mp m with m | m
    · rw [m]; exact s.free hp
    · exact fr a m⟩
theorem sat_tup {K : PySem.W.Frag} {H H1 : Hp} {n : Nat} {ds : List D} {vs : List V} {p : Addr} (s : Same H H1) (hp : H1 p = none) (h : (Kd.O n).satL K H H1 ds vs) : (Kd.O (n + 1)).sat K H (upd H1 p (.tup vs)) (.tup ds) (.ref p) := by
  obtain ⟨F, o, nd, fr⟩ := h
  have hF : p ∉ F := fun m => o.there p m hp
  exact ⟨p :: F, ⟨p, vs, F, rfl, upd_same, AllF.impIn (fun d v G m q => Own.congr (Same.refl _) (fun a ha => upd_ne (fun z => by subst z; exact hF (m _ ha))) q) o, rfl⟩, List.nodup_cons.mpr ⟨hF, nd⟩, fun a m => by
    rcases List.mem_cons.mp m with m | m
    · rw [m]; exact s.free hp
    · exact fr a m⟩
theorem same_new {H : Hp} {p : Addr} {o : HO} (h : H p = none) : Same H (upd H p o) := fun b x e => by
  rw [upd_ne (ne_of_none e h)]
  exact e
theorem rep_lst {K : PySem.W.Frag} {H1 : Hp} {ds : List D} {vs : List V} {p : Addr} (hp : H1 p = none) (h : RepL K H1 ds vs) : Rep K (upd H1 p (.lst vs)) (.lst ds) (.ref p) := by
  unfold Rep
  exact ⟨p, vs, rfl, upd_same, RepL.mono (same_new hp) _ _ h⟩
theorem rep_tup {K : PySem.W.Frag} {H1 : Hp} {ds : List D} {vs : List V} {p : Addr} (hp : H1 p = none) (h : RepL K H1 ds vs) : Rep K (upd H1 p (.tup vs)) (.tup ds) (.ref p) := by
  unfold Rep
  exact ⟨p, vs, rfl, upd_same, RepL.mono (same_new hp) _ _ h⟩
def Kd.up : Kd → Kd
  | .R => .R
  | .O n => .O (n + 1)
def lstD (ds : List D) : Rs D := if ds.length ≤ sizeLine then .nx (.lst ds) else .err
def tupD (ds : List D) : Rs D := if ds.length ≤ sizeLine then .nx (.tup ds) else .err
section
variable {X : Cx} {W : WX} {k : Kd} {ρ : List (Option D)} {a b e : Expr} {es : List Expr} {pos : Pos}
/-! ### arguments -/
theorem evL_nil : EvL X W k [] ρ (.nx [] : Rs (List D)) := fun σ H Q hr q => wA.of pa_nil (q [] H (Same.refl _) (by
  cases k with
  | R => exact (RepL.nil : RepL X.K H [] [])
  | O n => exact ⟨[], ⟨rfl, rfl⟩, List.nodup_nil, fun _ m => by cases m⟩))
theorem evL_cons {oa : Rs D} {ob : Rs (List D)} (ha : Ev X W k e ρ oa) (hb : EvL X W k es ρ ob) (hs : starEach (e :: es) X.env = (false, eval e X.env) :: starEach es X.env := by rfl) :
    EvL X W k (e :: es) ρ (oa.bind fun x => ob.bind fun xs => .nx (x :: xs)) := fun σ H Q hr q => by
  refine wA.of (pa_cons (wE.pe X e) (wA.pa X es) hs) ?_
  show wE X e σ H _
  refine ha σ H _ hr ?_
  cases oa with
  | nx x =>
    intro v H1 s1 rx
    refine hb σ H1 _ (hr.mono s1) ?_
    cases ob with
    | nx xs => exact fun vs H2 s2 rs => (q : PostL X W k σ H Q (.nx (x :: xs) : Rs (List D))) (v :: vs) H2 (s1.trans s2) (Kd.satL.cons s1 s2 rx rs)
    | exc n => exact PostL.at (X := X) (k := k) (o := (.exc n : Rs (List D))) q s1
    | err => exact q
  | exc n => exact q
  | err => exact q
/-! ### displays -/
theorem ev_lst {o : Rs (List D)} (h : EvL X W k es ρ o) : Ev X W k.up (.List es pos) ρ (o.bind lstD) := fun σ H Q hr q => by
  refine wE.of (pe_lst (wA.pa X es)) ?_
  show wA X es σ H _
  refine h σ H _ hr ?_
  cases o with
  | nx ds =>
    intro vs H1 s1 rs
    have q : PostE X W k.up σ H Q (lstD ds) := q
    unfold lstD at q
    by_cases c : ds.length ≤ sizeLine
    · rw [if_pos c] at q
      refine ⟨by rw [rs.repL.len]; exact c, fun p hp => ?_⟩
      refine (q : ∀ v H', _) (.ref p) _ (s1.trans (same_new hp)) ?_
      cases k with
      | R => exact rep_lst hp rs
      | O n => exact sat_lst s1 hp rs
    · rw [if_neg c] at q
      exact q.elim
  | exc n => exact q
  | err => exact q
theorem ev_tup {x1 : Nat} {o : Rs (List D)} (h : EvL X W k es ρ o) : Ev X W k.up (.Tuple es x1 pos) ρ (o.bind tupD) := fun σ H Q hr q => by
  refine wE.of (pe_tup (wA.pa X es)) ?_
  show wA X es σ H _
  refine h σ H _ hr ?_
  cases o with
  | nx ds =>
    intro vs H1 s1 rs
    have q : PostE X W k.up σ H Q (tupD ds) := q
    unfold tupD at q
    by_cases c : ds.length ≤ sizeLine
    · rw [if_pos c] at q
      refine ⟨by rw [rs.repL.len]; exact c, fun p hp => ?_⟩
      refine (q : ∀ v H', _) (.ref p) _ (s1.trans (same_new hp)) ?_
      cases k with
      | R => exact rep_tup hp rs
      | O n => exact sat_tup s1 hp rs
    · rw [if_neg c] at q
      exact q.elim
  | exc n => exact q
  | err => exact q
/-! ### built-ins -/
def Call1 (X : Cx) (r : List V → Hp → VK → Prop) (k : Kd) (f : List D → Rs D) : Prop :=
  ∀ (W : WX) (σ : Sg) (H : Hp) (Q : VK) (ds : List D) (vs : List V), RepL X.K H ds vs → PostE X W k σ H Q (f ds) → r vs H Q
theorem ev_callB {x : Str} {p : Pos} {id : String} {r : List V → Hp → VK → Prop} {f : List D → Rs D} {o : Rs (List D)} (hc : CallR X (.builtin id) r) (hf : Call1 X r k f) (hm : X.mg x = none) (hv : bootBuiltins x = some (.builtin id))
    (ha : EvL X W .R (e :: es) ρ o) (hg : Gl X x := by rfl) (hn : x ≠ "__name__" := by decide) (hdb : (x == ("__debug__" : Str)) = false := by decide)
    (he : starEach (e :: es) X.env = (false, eval e X.env) :: starEach es X.env := by rfl) (hpl : (backTo pos (starEach es X.env)).any (·.1) = false := by rfl) : Ev X W k (.Call (.Name x p) (e :: es) [] pos) ρ (o.bind f) := fun σ H Q hr q => by
  refine wE.of (pe_callB hc hg hm hv (wA.pa X _) hn hdb he hpl) ?_
  show wA X (e :: es) σ H _
  exact ha.then hr q fun ds vs H1 s1 rs q1 => hf W σ H1 Q ds vs rs q1
theorem ev_callTy {x : Str} {p : Pos} {T : String} {r : List V → Hp → VK → Prop} {f : List D → Rs D} {o : Rs (List D)} (hc : CallR X (.type T) r) (hf : Call1 X r k f) (hm : X.mg x = none) (hv : bootBuiltins x = some (.type T))
    (ha : EvL X W .R (e :: es) ρ o) (hg : Gl X x := by rfl) (hn : x ≠ "__name__" := by decide) (hdb : (x == ("__debug__" : Str)) = false := by decide)
    (he : starEach (e :: es) X.env = (false, eval e X.env) :: starEach es X.env := by rfl) (hpl : (backTo pos (starEach es X.env)).any (·.1) = false := by rfl) : Ev X W k (.Call (.Name x p) (e :: es) [] pos) ρ (o.bind f) := fun σ H Q hr q => by
  refine wE.of (pe_callTy hc hg hm hv (wA.pa X _) hn hdb he hpl) ?_
  show wA X (e :: es) σ H _
  exact ha.then hr q fun ds vs H1 s1 rs q1 => hf W σ H1 Q ds vs rs q1
theorem repL1 {K : PySem.W.Frag} {H : Hp} {d : D} {vs : List V} (h : RepL K H [d] vs) : ∃ v, vs = [v] ∧ Rep K H d v := by
  unfold RepL at h
  obtain ⟨v, vs', e, r, r2⟩ := h
  unfold RepL at r2
  exact ⟨v, by rw [e, r2], r⟩
theorem repL2 {K : PySem.W.Frag} {H : Hp} {d d' : D} {vs : List V} (h : RepL K H [d, d'] vs) : ∃ v w, vs = [v, w] ∧ Rep K H d v ∧ Rep K H d' w := by
  unfold RepL at h
  obtain ⟨v, vs', e, r, r2⟩ := h
  obtain ⟨w, e2, r3⟩ := repL1 r2
  exact ⟨v, w, by rw [e, e2], r, r3⟩
def lenD : List D → Rs D
  | [.lst xs] => .nx (.int xs.length)
  | [.tup xs] => .nx (.int xs.length)
  | [.scr xs] => .nx (.int xs.length)
  | [.str z] => if z.length ≤ sizeLine then .nx (.int z.length) else .err
  | _ => .err
def lenR (K : PySem.W.Frag) : List V → Hp → VK → Prop := fun xs H Q => (∃ p ys, xs = [.ref p] ∧ (SqL K H p ys ∨ SqT K H p ys) ∧ Q (.int ys.length) H) ∨ ∃ z, xs = [.str z] ∧ z.length ≤ sizeLine ∧ Q (.int z.length) H
theorem lenR_ok : CallR X (.builtin "len") (lenR X.K) := call_len_seq.or call_len_str
theorem call_lenD : Call1 X (lenR X.K) k lenD := fun W σ H Q ds vs r q => by
  unfold lenD at q
  split at q
  · obtain ⟨v, e, rv⟩ := repL1 r
    unfold Rep at rv
    obtain ⟨a, us, e2, ha, ru⟩ := rv
    exact .inl ⟨a, us, by rw [e, e2], .inl (SqL.of ha), by rw [ru.len]; exact (q : ∀ v H', _) _ H (Same.refl _) (Kd.atom rfl (H2 := H) (by unfold Rep; rfl) k)⟩
  · obtain ⟨v, e, rv⟩ := repL1 r
    unfold Rep at rv
    obtain ⟨a, us, e2, ha, ru⟩ := rv
    exact .inl ⟨a, us, by rw [e, e2], .inr (SqT.of ha), by rw [ru.len]; exact (q : ∀ v H', _) _ H (Same.refl _) (Kd.atom rfl (H2 := H) (by unfold Rep; rfl) k)⟩
  · obtain ⟨v, e, rv⟩ := repL1 r
    unfold Rep at rv
    obtain ⟨a, e2, ha⟩ := rv
    exact .inl ⟨a, _, by rw [e, e2], .inl ha, by rw [List.length_map]; exact (q : ∀ v H', _) _ H (Same.refl _) (Kd.atom rfl (H2 := H) (by unfold Rep; rfl) k)⟩
  · rename_i z
    obtain ⟨v, e, rv⟩ := repL1 r
    unfold Rep at rv
    by_cases c : z.length ≤ sizeLine
    · rw [if_pos c] at q
      exact .inr ⟨z, by rw [e, rv], c, (q : ∀ v H', _) _ H (Same.refl _) (Kd.atom rfl (H2 := H) (by unfold Rep; rfl) k)⟩
    · rw [if_neg c] at q
      exact q.elim
  · exact q.elim
theorem ev_len {p : Pos} {o : Rs (List D)} (hm : X.mg "len" = none) (ha : EvL X W .R (e :: es) ρ o) (hg : Gl X "len" := by rfl)
    (he : starEach (e :: es) X.env = (false, eval e X.env) :: starEach es X.env := by rfl) (hpl : (backTo pos (starEach es X.env)).any (·.1) = false := by rfl) : Ev X W k (.Call (.Name "len" p) (e :: es) [] pos) ρ (o.bind lenD) :=
  ev_callB lenR_ok call_lenD hm PySem.boot_len ha hg (by decide) (by decide) he hpl
/-- list(xs): a new list of flat things -/
def listD : List D → Rs D
  | [.lst xs] => if xs.all D.atom = true then .nx (.lst xs) else .err
  | [.scr xs] => .nx (.lst (xs.map D.int))
  | _ => .err
theorem ints_atom : ∀ ns : List Int, (ns.map D.int).all D.atom = true
  | [] => rfl
  | n :: ns => by rw [List.map_cons, List.all_cons, ints_atom ns]; rfl
theorem sat_flat {K : PySem.W.Frag} {H : Hp} {n : Nat} {ds : List D} {vs : List V} {l : Addr} (hl : H l = none) (c : ds.all D.atom = true) (ru : RepL K H ds vs) : (Kd.O (n + 1)).sat K H (upd H l (.lst vs)) (.lst ds) (.ref l) :=
  sat_lst (Same.refl _) hl ⟨[], all_atoms c ru, List.nodup_nil, fun _ m => by cases m⟩
theorem call_listD {n : Nat} : Call1 X (fun xs H Q => ∃ p ys, xs = [.ref p] ∧ (SqL X.K H p ys ∨ SqT X.K H p ys) ∧ ∀ l, H l = none → Q (.ref l) (upd H l (.lst ys))) (.O (n + 1)) listD := fun W σ H Q ds vs r q => by
  unfold listD at q
  split at q
  · obtain ⟨v, e, rv⟩ := repL1 r
    unfold Rep at rv
    obtain ⟨a, us, e2, ha, ru⟩ := rv
    rename_i xs
    by_cases c : xs.all D.atom = true
    · rw [if_pos c] at q
      exact ⟨a, us, by rw [e, e2], .inl (SqL.of ha), fun l hl => (q : ∀ v H', _) _ _ (same_new hl) (sat_flat hl c ru)⟩
    · rw [if_neg c] at q
      exact q.elim
  · obtain ⟨v, e, rv⟩ := repL1 r
    unfold Rep at rv
    obtain ⟨a, e2, ha⟩ := rv
    exact ⟨a, _, by rw [e, e2], .inl ha, fun l hl => (q : ∀ v H', _) _ _ (same_new hl) (sat_flat hl (ints_atom _) (RepL.ints.mpr rfl))⟩
  · exact q.elim
theorem ev_list {n : Nat} {p : Pos} {o : Rs (List D)} (hm : X.mg "list" = none) (ha : EvL X W .R (e :: es) ρ o) (hg : Gl X "list" := by rfl)
    (he : starEach (e :: es) X.env = (false, eval e X.env) :: starEach es X.env := by rfl) (hpl : (backTo pos (starEach es X.env)).any (·.1) = false := by rfl) : Ev X W (.O (n + 1)) (.Call (.Name "list" p) (e :: es) [] pos) ρ (o.bind listD) :=
  ev_callTy call_list_of call_listD hm (by decide +kernel) ha hg (by decide) (by decide) he hpl
/-- min, max of two numbers, or of a list; sum -/
def maxL : List Int → Int
  | [] => 0
  | [x] => x
  | x :: y :: r => max x (maxL (y :: r))
def minL : List Int → Int
  | [] => 0
  | [x] => x
  | x :: y :: r => min x (minL (y :: r))
theorem maxL_mem : ∀ ns : List Int, 0 < ns.length → maxL ns ∈ ns ∧ ∀ y ∈ ns, y ≤ maxL ns
  | [], h => by cases h
  | [x], _ => by simp [maxL]
  | x :: y :: r, _ => by
    obtain ⟨h1, h2⟩ := maxL_mem (y :: r) (by simp)
    have e : maxL (x :: y :: r) = max x (maxL (y :: r)) := rfl
    rw [e]
    constructor
    · by_cases c : x ≤ maxL (y :: r)
      · rw [Int.max_eq_right c]; exact List.mem_cons_of_mem _ h1
      · rw [Int.max_eq_left (by omega)]; exact List.mem_cons_self
    · intro z hz
      rcases List.mem_cons.mp hz with hz | hz
      · rw [hz]; exact Int.le_max_left _ _
      · exact Int.le_trans (h2 z hz) (Int.le_max_right _ _)
theorem minL_mem : ∀ ns : List Int, 0 < ns.length → minL ns ∈ ns ∧ ∀ y ∈ ns, minL ns ≤ y
  | [], h => by cases h
  | [x], _ => by simp [minL]
  | x :: y :: r, _ => by
    obtain ⟨h1, h2⟩ := minL_mem (y :: r) (by simp)
    have e : minL (x :: y :: r) = min x (minL (y :: r)) := rfl
    rw [e]
    constructor
    · by_cases c : x ≤ minL (y :: r)
      · rw [Int.min_eq_left c]; exact List.mem_cons_self
      · rw [Int.min_eq_right (by omega)]; exact List.mem_cons_of_mem _ h1
    · intro z hz
      rcases List.mem_cons.mp hz with hz | hz
      · rw [hz]; exact Int.min_le_left _ _
      · exact Int.le_trans (Int.min_le_right _ _) (h2 z hz)
def getInts : List D → Option (List Int)
  | [] => some []
  | .int i :: r => (getInts r).map (i :: ·)
  | _ :: _ => none
theorem getInts_map : ∀ ns : List Int, getInts (ns.map D.int) = some ns
  | [] => rfl
  | n :: ns => by simp [getInts, getInts_map ns]
theorem getInts_eq : ∀ {ds : List D} {ns : List Int}, getInts ds = some ns → ds = ns.map D.int
  | [], ns, h => by simp [getInts] at h; rw [h]; rfl
  | d :: r, ns, h => by
    cases d <;> simp [getInts] at h
    obtain ⟨ms, h1, h2⟩ := h
    rw [← h2, getInts_eq h1]; rfl
def listI (c : List Int → Bool) (g : List Int → D) : List D → Rs D
  | [.lst ds] => match getInts ds with
    | some ns => if c ns = true then .nx (g ns) else .err
    | none => .err
  | _ => .err
theorem listI_shape {K : PySem.W.Frag} {H : Hp} {X : Cx} {W : WX} {k : Kd} {σ : Sg} {Q : VK} {c : List Int → Bool} {g : List Int → D} {ds : List D} {vs : List V} (r : RepL K H ds vs) (q : PostE X W k σ H Q (listI c g ds)) :
    ∃ (a : Addr) (ns : List Int), vs = [.ref a] ∧ SqL K H a (ns.map V.int) ∧ c ns = true ∧ PostE X W k σ H Q (.nx (g ns) : Rs D) := by
  unfold listI at q
  split at q
  · rename_i xs
    cases e : getInts xs with
    | none => simp only [e] at q; exact q.elim
    | some ns =>
      simp only [e] at q
      by_cases h : c ns = true
      · rw [if_pos h] at q
        obtain ⟨v, e1, rv⟩ := repL1 r
        unfold Rep at rv
        obtain ⟨a, us, e2, ha, ru⟩ := rv
        rw [getInts_eq e] at ru
        exact ⟨a, ns, by rw [e1, e2], by rw [← RepL.ints.mp ru]; exact SqL.of ha, h, q⟩
      · rw [if_neg h] at q; exact q.elim
  · exact q.elim
def maxD : List D → Rs D
  | [.int i, .int j] => .nx (.int (if j > i then j else i))
  | ds => listI (fun ns => decide (0 < ns.length)) (fun ns => .int (maxL ns)) ds
def minD : List D → Rs D
  | [.int i, .int j] => .nx (.int (if j < i then j else i))
  | ds => listI (fun ns => decide (0 < ns.length)) (fun ns => .int (minL ns)) ds
def sumD : List D → Rs D := listI (fun _ => true) fun ns => .int ns.sum
theorem call_maxD : Call1 X (fun xs H Q => (∃ i j, xs = [.int i, .int j] ∧ Q (.int (if j > i then j else i)) H) ∨ rMax X.K xs H Q) k maxD := fun W σ H Q ds vs r q => by
  unfold maxD at q
  split at q
  · obtain ⟨v, w, e, r1, r2⟩ := repL2 r
    unfold Rep at r1 r2
    exact .inl ⟨_, _, by rw [e, r1, r2], (q : ∀ v H', _) _ H (Same.refl _) (Kd.atom rfl (H2 := H) (by unfold Rep; rfl) k)⟩
  · obtain ⟨a, ns, e, hs, c, q⟩ := listI_shape r q
    have c := of_decide_eq_true c
    refine .inr ⟨a, ns, e, hs, c, fun m hm hy => ?_⟩
    have e1 : m = maxL ns := Int.le_antisymm ((maxL_mem ns c).2 m hm) (hy _ (maxL_mem ns c).1)
    rw [e1]
    exact (q : ∀ v H', _) _ H (Same.refl _) (Kd.atom rfl (H2 := H) (by unfold Rep; rfl) k)
theorem call_minD : Call1 X (fun xs H Q => (∃ i j, xs = [.int i, .int j] ∧ Q (.int (if j < i then j else i)) H) ∨ rMin X.K xs H Q) k minD := fun W σ H Q ds vs r q => by
  unfold minD at q
  split at q
  · obtain ⟨v, w, e, r1, r2⟩ := repL2 r
    unfold Rep at r1 r2
    exact .inl ⟨_, _, by rw [e, r1, r2], (q : ∀ v H', _) _ H (Same.refl _) (Kd.atom rfl (H2 := H) (by unfold Rep; rfl) k)⟩
  · obtain ⟨a, ns, e, hs, c, q⟩ := listI_shape r q
    have c := of_decide_eq_true c
    refine .inr ⟨a, ns, e, hs, c, fun m hm hy => ?_⟩
    have e1 : m = minL ns := Int.le_antisymm (hy _ (minL_mem ns c).1) ((minL_mem ns c).2 m hm)
    rw [e1]
    exact (q : ∀ v H', _) _ H (Same.refl _) (Kd.atom rfl (H2 := H) (by unfold Rep; rfl) k)
theorem call_sumD : Call1 X (rSum X.K) k sumD := fun W σ H Q ds vs r q => by
  obtain ⟨a, ns, e, hs, c, q⟩ := listI_shape r q
  exact ⟨a, ns, e, hs, (q : ∀ v H', _) _ H (Same.refl _) (Kd.atom rfl (H2 := H) (by unfold Rep; rfl) k)⟩
theorem ev_max {p : Pos} {o : Rs (List D)} (hm : X.mg "max" = none) (ha : EvL X W .R (e :: es) ρ o) (hc : X.calm = true := by rfl) (hg : Gl X "max" := by rfl)
    (he : starEach (e :: es) X.env = (false, eval e X.env) :: starEach es X.env := by rfl) (hpl : (backTo pos (starEach es X.env)).any (·.1) = false := by rfl) : Ev X W k (.Call (.Name "max" p) (e :: es) [] pos) ρ (o.bind maxD) :=
  ev_callB ((call_max2 hc).or (cr_max hc)) call_maxD hm (by decide +kernel) ha hg (by decide) (by decide) he hpl
theorem ev_min {p : Pos} {o : Rs (List D)} (hm : X.mg "min" = none) (ha : EvL X W .R (e :: es) ρ o) (hc : X.calm = true := by rfl) (hg : Gl X "min" := by rfl)
    (he : starEach (e :: es) X.env = (false, eval e X.env) :: starEach es X.env := by rfl) (hpl : (backTo pos (starEach es X.env)).any (·.1) = false := by rfl) : Ev X W k (.Call (.Name "min" p) (e :: es) [] pos) ρ (o.bind minD) :=
  ev_callB ((call_min2 hc).or (cr_min hc)) call_minD hm (by decide +kernel) ha hg (by decide) (by decide) he hpl
theorem ev_sum {p : Pos} {o : Rs (List D)} (hm : X.mg "sum" = none) (ha : EvL X W .R (e :: es) ρ o) (hc : X.calm = true := by rfl) (hg : Gl X "sum" := by rfl)
    (he : starEach (e :: es) X.env = (false, eval e X.env) :: starEach es X.env := by rfl) (hpl : (backTo pos (starEach es X.env)).any (·.1) = false := by rfl) : Ev X W k (.Call (.Name "sum" p) (e :: es) [] pos) ρ (o.bind sumD) :=
  ev_callB (cr_sum hc) call_sumD hm (by decide +kernel) ha hg (by decide) (by decide) he hpl
/-- sorted -/
def insI (x : Int) : List Int → List Int
  | [] => [x]
  | y :: r => if x ≤ y then x :: y :: r else y :: insI x r
def sortI : List Int → List Int
  | [] => []
  | x :: r => insI x (sortI r)
theorem insI_perm (x : Int) : ∀ r : List Int, (insI x r).Perm (x :: r)
  | [] => .refl _
  | y :: r => by
    unfold insI
    split
    · exact .refl _
    · exact (List.Perm.cons y (insI_perm x r)).trans (List.Perm.swap x y r)
theorem sortI_perm : ∀ r : List Int, (sortI r).Perm r
  | [] => .refl _
  | x :: r => (insI_perm x _).trans (List.Perm.cons x (sortI_perm r))
theorem insI_sorted (x : Int) : ∀ {r : List Int}, r.Pairwise (· ≤ ·) → (insI x r).Pairwise (· ≤ ·)
  | [], _ => by simp [insI]
  | y :: r, h => by
    unfold insI
    obtain ⟨h1, h2⟩ := List.pairwise_cons.mp h
    split
    · rename_i c
      exact List.pairwise_cons.mpr ⟨fun z hz => by
        rcases List.mem_cons.mp hz with hz | hz
        · rw [hz]; exact c
        · exact Int.le_trans c (h1 z hz), h⟩
    · rename_i c
      refine List.pairwise_cons.mpr ⟨fun z hz => ?_, insI_sorted x h2⟩
      rcases List.mem_cons.mp ((insI_perm x r).mem_iff.mp hz) with hz | hz
      · rw [hz]; omega
      · exact h1 z hz
theorem sortI_sorted : ∀ r : List Int, (sortI r).Pairwise (· ≤ ·)
  | [] => by simp [sortI]
  | x :: r => insI_sorted x (sortI_sorted r)
theorem sorted_unique : ∀ {a b : List Int}, a.Perm b → a.Pairwise (· ≤ ·) → b.Pairwise (· ≤ ·) → a = b
  | [], b, p, _, _ => p.nil_eq
  | x :: a, [], p, _, _ => p.eq_nil
  | x :: a, y :: b, p, ha, hb => by
    obtain ⟨a1, a2⟩ := List.pairwise_cons.mp ha
    obtain ⟨b1, b2⟩ := List.pairwise_cons.mp hb
    have e : x = y := by
      have h1 : x ≤ y := by
        rcases List.mem_cons.mp (p.mem_iff.mpr (List.mem_cons_self (a := y))) with z | z
        · rw [z]; exact Int.le_refl _
        · exact a1 y z
      have h2 : y ≤ x := by
        rcases List.mem_cons.mp (p.mem_iff.mp (List.mem_cons_self (a := x))) with z | z
        · rw [z]; exact Int.le_refl _
        · exact b1 x z
      exact Int.le_antisymm h1 h2
    subst e
    rw [sorted_unique ((List.perm_cons x).mp p) a2 b2]
def sortedD : List D → Rs D := listI (fun ns => decide (ns.length < 64)) fun ns => .lst ((sortI ns).map D.int)
theorem call_sortedD {n : Nat} : Call1 X (rSorted X.K) (.O (n + 1)) sortedD := fun W σ H Q ds vs r q => by
  obtain ⟨a, ns, e, hs, c, q⟩ := listI_shape r q
  refine ⟨a, ns, e, hs, of_decide_eq_true c, fun ns' p hp hs' hn => ?_⟩
  rw [sorted_unique (hp.trans (sortI_perm ns).symm) hs' (sortI_sorted ns)]
  exact (q : ∀ v H', _) _ _ (same_new hn) (sat_flat hn (ints_atom _) (RepL.ints.mpr rfl))
theorem ev_sorted {n : Nat} {p : Pos} {o : Rs (List D)} (hm : X.mg "sorted" = none) (ha : EvL X W .R (e :: es) ρ o) (hg : Gl X "sorted" := by rfl)
    (he : starEach (e :: es) X.env = (false, eval e X.env) :: starEach es X.env := by rfl) (hpl : (backTo pos (starEach es X.env)).any (·.1) = false := by rfl) : Ev X W (.O (n + 1)) (.Call (.Name "sorted" p) (e :: es) [] pos) ρ (o.bind sortedD) :=
  ev_callB cr_sorted call_sortedD hm (by decide +kernel) ha hg (by decide) (by decide) he hpl
/-! ### isinstance -/
def tyD : D → Option String
  | .non => some "NoneType"
  | .bl _ => some "bool"
  | .int _ => some "int"
  | .str _ => some "str"
  | .lst _ => some "list"
  | .tup _ => some "tuple"
  | _ => none
theorem tyD_ok {K : PySem.W.Frag} {H : Hp} {d : D} {v : V} {t : String} (h : tyD d = some t) (r : Rep K H d v) : TyX K H v (.type t) := by
  cases d <;> simp [tyD] at h <;> subst h <;> unfold Rep at r
  · rw [r]; exact .base .non
  · rw [r]; exact .base (.bl _)
  · rw [r]; exact .base (.int _)
  · rw [r]; exact .base (.str _)
  · obtain ⟨a, vs, e, ha, _⟩ := r; rw [e]; exact .base (.lst ha)
  · obtain ⟨a, vs, e, ha, _⟩ := r; rw [e]; exact .base (.tup ha)
/-- isinstance(x, T), T a built-in class -/
def isiO (T : String) (d : D) : Option Bool := match tyD d with
  | some t => kitB t T
  | none => none
theorem ev_isi {x : Str} {T : String} {p p2 : Pos} {o : Rs D} (hm : X.mg "isinstance" = none) (hmT : X.mg x = none) (hvT : bootBuiltins x = some (.type T)) (ha : Ev X W .R e ρ o) (hg : Gl X "isinstance" := by rfl) (hgT : Gl X x := by rfl)
    (hn : x ≠ "__name__" := by decide) (hd : (x == ("__debug__" : Str)) = false := by decide)
    (he : starEach (e :: [.Name x p2]) X.env = (false, eval e X.env) :: starEach [.Name x p2] X.env := by rfl) (he2 : starEach [.Name x p2] X.env = (false, eval (.Name x p2) X.env) :: starEach [] X.env := by rfl)
    (hpl : (backTo pos (starEach [.Name x p2] X.env)).any (·.1) = false := by rfl) :
    Ev X W k (.Call (.Name "isinstance" p) (e :: [.Name x p2]) [] pos) ρ (o.bind fun d => ofB (isiO T d)) := fun σ H Q hr q => by
  refine wE.of (pe_callB call_isi hg hm (by decide +kernel) (pa_cons (wE.pe X e) (pa_cons (pe_bltn (v := .ty T) hgT hmT hvT rfl hn hd) pa_nil he2) he) (by decide) (by decide) he hpl) ?_
  show wE X e σ H _
  refine ha.then hr q fun d v H1 sm r q1 => ?_
  cases h : isiO T d with
  | none => rw [h] at q1; exact q1.elim
  | some b =>
    rw [h] at q1
    unfold isiO at h
    cases ht : tyD d with
    | none => rw [ht] at h; cases h
    | some t =>
      rw [ht] at h
      exact ⟨v, .ty T, .type t, .type T, b, rfl, .ty T, tyD_ok ht r, kit_ty h, (q1 : ∀ v H', _) _ H1 (Same.refl _) (Kd.atom rfl (H2 := H1) (by unfold Rep; rfl) k)⟩
end
end Sw

/- part SwComp -/
/-! Slices, comprehensions, calls of defs. -/
namespace Sw
open PySem PySem.Spec PyProof.Rows L2
/-! ### slices -/
theorem RepL.cut {K : PySem.W.Frag} {H : Hp} {ds : List D} {vs : List V} (r : RepL K H ds vs) (lo hi : Option Int) :
    RepL K H ((ds.drop (HT.sIx ds.length 0 lo)).take (HT.sIx ds.length ds.length hi - HT.sIx ds.length 0 lo)) (cutV vs lo hi) := by
  unfold cutV
  rw [r.len]
  exact (r.drop _).take _
def cutL (ds : List D) (lo hi : Option Int) : List D := (ds.drop (HT.sIx ds.length 0 lo)).take (HT.sIx ds.length ds.length hi - HT.sIx ds.length 0 lo)
theorem cutL_atom {ds : List D} (c : ds.all D.atom = true) (lo hi : Option Int) : (cutL ds lo hi).all D.atom = true := by
  rw [List.all_eq_true] at c ⊢
  intro x hx
  exact c x (List.mem_of_mem_drop (List.mem_of_mem_take hx))
/-- x[lo:hi]: a new list of flat things, or a text -/
def cutD (x : D) (lo hi : Option Int) : Rs D := match x with
  | .lst ds => if ds.all D.atom = true then .nx (.lst (cutL ds lo hi)) else .err
  | .str z => if z.length ≤ sizeLine then .nx (.str (cutS z lo hi)) else .err
  | _ => .err
/-- .. a new list of things that are shared -/
def cutRD (x : D) (lo hi : Option Int) : Rs D := match x with
  | .lst ds => .nx (.lst (cutL ds lo hi))
  | _ => .err
/-- a part of a slice -/
def wO (X : Cx) (e : Option Expr) : TO := fun σ H Q => ∀ (pins : List (Addr × Obj)) (s : Shared), Inv X pins σ H s → True ∧ True
section
variable {X : Cx} {W : WX} {k : Kd} {ρ : List (Option D)} {a b e : Expr} {es : List Expr} {pos p2 : Pos}
def asI : D → Rs Int
  | .int i => .nx i
  | _ => .err
@[simp] theorem asI_int (i : Int) : asI (.int i) = .nx i := id rfl
def PartOk (X : Cx) (W : WX) (lo : Option Expr) (ρ : List (Option D)) (o : Rs (Option Int)) : Prop := ∃ t, PO X lo t ∧ ∀ (σ : Sg) (H : Hp) (Q : Option Int → Hp → Prop), RdF X.K H σ ρ →
  (match o with
    | .nx i => ∀ H', Same H H' → Q i H'
    | .exc n => ∀ C, X.mg n = some (.ref C) → ∀ H', Same H H' → W (.ref C) none σ H'
    | _ => False) → t σ H Q
theorem part_none : PartOk X W none ρ (.nx none : Rs (Option Int)) := ⟨_, po_none, fun σ H Q hr q => q H (Same.refl _)⟩
theorem part_some {o : Rs D} (h : Ev X W .R e ρ o) : PartOk X W (some e) ρ (o.bind fun d => (asI d).bind fun i => .nx (some i)) := ⟨_, po_some (wE.pe X e), fun σ H Q hr q => by
  show wE X e σ H _
  refine h σ H _ hr ?_
  cases o with
  | nx d =>
    intro v H' sm r
    cases d <;> first | exact False.elim q | skip
    have r : Rep X.K H' (.int _) v := r
    unfold Rep at r
    exact ⟨_, r, (q : ∀ H', Same H H' → Q _ H') H' sm⟩
  | exc n => exact q
  | err => exact q⟩
/-- how a slice's rule and its answer go together -/
def SlO (X : Cx) (r : V → Option Int → Option Int → Hp → VK → Prop) (k : Kd) (f : D → Option Int → Option Int → Rs D) : Prop :=
  ∀ (W : WX) (σ : Sg) (H : Hp) (Q : VK) (x : D) (v : V) (lo hi : Option Int), Rep X.K H x v → PostE X W k σ H Q (f x lo hi) → r v lo hi H Q
theorem ev_slice {r : V → Option Int → Option Int → Hp → VK → Prop} {f : D → Option Int → Option Int → Rs D} {lo hi : Option Expr} {oe : Rs D} {ol oh : Rs (Option Int)} (hr : SlR X r) (hf : SlO X r k f) (he : Ev X W .R e ρ oe) (hl : PartOk X W lo ρ ol) (hh : PartOk X W hi ρ oh) :
    Ev X W k (.Subscript e (.Slice lo hi none p2) pos) ρ (oe.bind fun x => ol.bind fun l => oh.bind fun h => f x l h) := fun σ H Q hr' q => by
  obtain ⟨tl, pl, fl⟩ := hl
  obtain ⟨th, ph, fh⟩ := hh
  refine wE.of (pe_slice hr (wE.pe X e) pl ph) ?_
  show wE X e σ H _
  refine he.then hr' q fun x v H1 s1 rx h1 => ?_
  refine fl σ H1 _ (hr'.mono s1) ?_
  cases ol with
  | nx l =>
    intro H2 s2
    refine fh σ H2 _ (hr'.mono (s1.trans s2)) ?_
    have h2 : PostE X W k σ H2 Q (oh.bind fun h => f x l h) := PostE.at h1 s2
    cases oh with
    | nx h =>
      intro H3 s3
      exact hf W σ H3 Q x v l h (Rep.mono (s2.trans s3) _ _ rx) (PostE.at h2 s3)
    | exc n => exact h2
    | err => exact h2
  | exc n => exact h1
  | err => exact h1
def slR (K : PySem.W.Frag) : V → Option Int → Option Int → Hp → VK → Prop := fun x lo hi H Q => rSlL K x lo hi H Q ∨ rSlS x lo hi H Q
theorem slR_ok : SlR X (slR X.K) := sl_list.or sl_str
theorem slO_cut {n : Nat} : SlO X (slR X.K) (.O (n + 1)) cutD := fun W σ H Q x v lo hi r q => by
  cases x <;> first | exact q.elim | skip
  · rename_i z
    unfold Rep at r
    unfold cutD at q
    by_cases c : z.length ≤ sizeLine
    · simp only [if_pos c] at q
      exact .inr ⟨z, r, c, (q : ∀ v H', _) _ H (Same.refl _) (Kd.atom rfl (H2 := H) (by unfold Rep; rfl) _)⟩
    · simp only [if_neg c] at q
      exact q.elim
  · rename_i ds
    unfold Rep at r
    obtain ⟨a, vs, e, ha, ru⟩ := r
    unfold cutD at q
    by_cases c : ds.all D.atom = true
    · simp only [if_pos c] at q
      exact .inl ⟨a, vs, e, SqL.of ha, fun p hp => (q : ∀ v H', _) _ _ (same_new hp) (sat_flat hp (cutL_atom c lo hi) (ru.cut lo hi))⟩
    · simp only [if_neg c] at q
      exact q.elim
theorem slO_cutR : SlO X (slR X.K) .R cutRD := fun W σ H Q x v lo hi r q => by
  cases x <;> first | exact q.elim | skip
  unfold Rep at r
  obtain ⟨a, vs, e, ha, ru⟩ := r
  exact .inl ⟨a, vs, e, SqL.of ha, fun p hp => (q : ∀ v H', _) _ _ (same_new hp) (rep_lst hp (ru.cut lo hi))⟩
theorem ev_cut {n : Nat} {lo hi : Option Expr} {oe : Rs D} {ol oh : Rs (Option Int)} (he : Ev X W .R e ρ oe) (hl : PartOk X W lo ρ ol) (hh : PartOk X W hi ρ oh) :
    Ev X W (.O (n + 1)) (.Subscript e (.Slice lo hi none p2) pos) ρ (oe.bind fun x => ol.bind fun l => oh.bind fun h => cutD x l h) := ev_slice slR_ok slO_cut he hl hh
theorem ev_cutR {lo hi : Option Expr} {oe : Rs D} {ol oh : Rs (Option Int)} (he : Ev X W .R e ρ oe) (hl : PartOk X W lo ρ ol) (hh : PartOk X W hi ρ oh) :
    Ev X W .R (.Subscript e (.Slice lo hi none p2) pos) ρ (oe.bind fun x => ol.bind fun l => oh.bind fun h => cutRD x l h) := ev_slice slR_ok slO_cutR he hl hh
/-- x[::-1] -/
def revD : D → Rs D
  | .lst ds => if ds.all D.atom = true then .nx (.lst ds.reverse) else .err
  | _ => .err
theorem ev_rev {n j : Nat} {p1 p2 p3 : Pos} {oe : Rs D} (he : Ev X W .R e ρ oe) : Ev X W (.O (n + 1)) (.Subscript e (.Slice none none (some (.UnaryOp .USub (.Constant (.int 1) j p1) p2)) p3) pos) ρ (oe.bind revD) := fun σ H Q hr q => by
  refine wE.of (pe_revL (wE.pe X e)) ?_
  show wE X e σ H _
  refine he.then hr q fun x v H1 s1 r q1 => ?_
  cases x <;> first | exact q1.elim | skip
  rename_i ds
  have r : Rep X.K H1 (.lst ds) v := r
  unfold Rep at r
  obtain ⟨a, vs, e, ha, ru⟩ := r
  have q1 : PostE X W (.O (n + 1)) σ H1 Q (if ds.all D.atom = true then (.nx (.lst ds.reverse) : Rs D) else .err) := q1
  by_cases c : ds.all D.atom = true
  · rw [if_pos c] at q1
    exact ⟨a, vs, e, SqL.of ha, fun p hp => (q1 : ∀ v H', _) _ _ (same_new hp) (sat_flat hp (by rw [List.all_reverse]; exact c) ru.reverse)⟩
  · rw [if_neg c] at q1
    exact q1.elim

/-! ### comprehensions -/
/-- what [f x for x in xs if c x] answers -/
def compL (c : D → Rs Bool) (f : D → Rs D) : List D → Option (List D)
  | [] => some []
  | d :: r => match c d with
    | .nx true => match f d with
      | .nx x => (compL c f r).map (x :: ·)
      | _ => none
    | .nx false => compL c f r
    | _ => none
theorem compL_cons (c : D → Rs Bool) (f : D → Rs D) (d : D) (r : List D) : compL c f (d :: r) = match c d with
    | .nx true => match f d with
      | .nx x => (compL c f r).map (x :: ·)
      | _ => none
    | .nx false => compL c f r
    | _ => none := rfl
def ofL (o : Option (List D)) : Rs D := match o with
  | some xs => .nx (.lst xs)
  | none => .err
def compD (c : D → Rs Bool) (f : D → Rs D) (ds : List D) : Rs D := if ds.length ≤ sizeLine then ofL (compL c f ds) else .err
abbrev W0 : WX := fun _ _ _ _ => False
def EvTs (X : Cx) (ifs : List Expr) (ρ : List (Option D)) (o : Rs Bool) : Prop := ∃ t, PTs X ifs t ∧ ∀ (σ : Sg) (H : Hp) (Q : Bool → Hp → Prop), RdF X.K H σ ρ → PostT X W0 σ H Q o → t σ H Q
theorem RdF.bindV {K : PySem.W.Frag} {H : Hp} {σ : Sg} {i : Nat} {d : D} {v : V} (h : RdF K H σ ρ) (hi : i < ρ.length) (r : Rep K H d v) : RdF K H ((wipe σ [i]).set i (some v)) (ρ.set i (some d)) := by
  have hl := h.len
  refine ⟨?_, fun j e hj => ?_⟩
  · rw [List.length_set, wipe_length, List.length_set, hl]
  · rw [List.getElem?_set] at hj ⊢
    by_cases c : i = j
    · rw [if_pos c, if_pos hi] at hj
      cases hj
      rw [if_pos c, if_pos (by rw [wipe_length, hl]; exact hi)]
      exact ⟨v, rfl, r⟩
    · rw [if_neg c] at hj
      rw [if_neg c]
      obtain ⟨w, h1, h2⟩ := h.get j e hj
      refine ⟨w, ?_, h2⟩
      show ((wipe σ []).set i none)[j]? = _
      rw [List.getElem?_set_ne c]
      exact h1
theorem wipe_set {σ : Sg} {i : Nat} {v : V} : wipe ((wipe σ [i]).set i (some v)) [i] = wipe σ [i] := by
  show (((wipe σ []).set i none).set i (some v)).set i none = (wipe σ []).set i none
  rw [List.set_set, List.set_set]
/-- a comprehension, as a value or stored on the way -/
def EvC (X : Cx) (W : WX) (k : Kd) (e : Expr) (ρ : List (Option D)) (o : Rs D) : Prop := ∃ t, PE X e t ∧
  (∀ (i : Nat) (y : Str) (py spos : Pos), X.N[i]? = some y → X.env.scope.names.lookup y = some .local → swapsWith e (some (.Name y py)) spos.line X.env = pure true → PS X (.Assign [.Name y py] e spos) (tAsg t (gName i))) ∧
  ∀ (σ : Sg) (H : Hp) (Q : VK), RdF X.K H σ ρ → PostE X W k σ H Q o → t σ H Q
theorem EvC.ev {k : Kd} {o : Rs D} (h : EvC X W k e ρ o) : Ev X W k e ρ o := fun σ H Q hr q => by
  obtain ⟨t, p, _, f⟩ := h
  exact wE.of p (f σ H Q hr q)
/-- the turns of a comprehension, whatever is walked -/
theorem comp_turns {n : Nat} {i : Nat} {c : D → Rs Bool} {f : D → Rs D} {tt : TT} {te : TE} {σ : Sg} {H1 : Hp} {Dp : Addr} {ds : List D} {Q : VK} {item : Nat → V}
    (hr : RdF X.K H1 σ ρ) (hi : i < ρ.length) (hD : H1 Dp = none) (hz : ds.length ≤ sizeLine)
    (hc : ∀ (d : D) (σ : Sg) (H : Hp) (Q : Bool → Hp → Prop), RdF X.K H σ (ρ.set i (some d)) → PostT X W0 σ H Q (c d) → tt σ H Q)
    (hf : ∀ (d : D) (σ : Sg) (H : Hp) (Q : VK), RdF X.K H σ (ρ.set i (some d)) → PostE X W0 (.O n) σ H Q (f d) → te σ H Q)
    (it : ∀ j d, ds[j]? = some d → Rep X.K H1 d (item j))
    (q : PostE X W (.O (n + 1)) σ H1 Q (ofL (compL c f ds))) :
    ∃ Pv : Nat → Hp → Prop, Pv 0 (upd H1 Dp (.lst [])) ∧ (∀ j H, Pv j H → Same H1 H) ∧ (∀ j H, j < ds.length → Pv j H →
      gName i (item j) (wipe σ [i]) H fun σ2 H2 => wipe σ2 [i] = wipe σ [i] ∧ tt σ2 H2 fun b H3 =>
        if b = true then te σ2 H3 fun y H4 => ∃ acc, H4 Dp = some (.lst acc) ∧ acc.length < sizeLine ∧ Pv (j + 1) (upd H4 Dp (.lst (acc ++ [y]))) else Pv (j + 1) H3) ∧
      (∀ H, Pv ds.length H → Q (.ref Dp) H) := by
  refine ⟨fun j H => ∃ (es : List D) (vs : List V) (F : List Addr), es.length ≤ j ∧ compL c f ds = (compL c f (ds.drop j)).map (es ++ ·) ∧ Same H1 H ∧ H Dp = some (.lst vs) ∧ AllF (Own X.K emp H n) es vs F ∧ F.Nodup ∧ ∀ a ∈ F, upd H1 Dp (.lst []) a = none, ?_, ?_, ?_, ?_⟩
  · exact ⟨[], [], [], Nat.le_refl _, by simp, same_new hD, upd_same, ⟨rfl, rfl⟩, List.nodup_nil, fun _ m => by cases m⟩
  · rintro j H ⟨es, vs, F, _, _, sm, _⟩
    exact sm
  · rintro j H hj ⟨es, vs, F, hl, e, sm, hv, o, nd, fr⟩
    obtain ⟨d, hd⟩ : ∃ d, ds[j]? = some d := ⟨_, List.getElem?_eq_getElem hj⟩
    have dr : ds.drop j = d :: ds.drop (j + 1) := by
      rw [List.drop_eq_getElem_cons hj]
      rw [List.getElem?_eq_getElem hj] at hd
      cases hd
      rfl
    have rr : RdF X.K H ((wipe σ [i]).set i (some (item j))) (ρ.set i (some d)) := (hr.mono sm).bindV hi (Rep.mono sm _ _ (it j d hd))
    show wipe ((wipe σ [i]).set i (some (item j))) [i] = wipe σ [i] ∧ _
    refine ⟨wipe_set, hc d _ H _ rr ?_⟩
    rw [dr] at e
    have no : compL c f (d :: ds.drop (j + 1)) ≠ none := fun z => by
      rw [z] at e
      rw [e] at q
      exact q
    rw [compL_cons] at no e
    cases hcd : c d with
    | nx b =>
      rw [hcd] at no e
      intro H3 s3
      cases b with
      | false =>
        rw [if_neg Bool.false_ne_true]
        refine ⟨es, vs, F, by omega, e, sm.trans s3, s3 _ _ hv, ?_, nd, fr⟩
        exact AllF.impIn (fun d v G m p => Own.congr (Same.refl _) (fun a ha => by
          cases ea : H a with
          | none => exact absurd ea (Own.there p a ha)
          | some x => exact s3 a x ea) p) o
      | true =>
        rw [if_pos rfl]
        simp only at no e
        refine hf d _ H3 _ (rr.mono s3) ?_
        cases hfd : f d with
        | nx x =>
          rw [hfd] at no e
          simp only at no e
          rintro v H4 s4 ⟨G, oG, ndG, frG⟩
          have s34 : Same H H4 := s3.trans s4
          have o4 : AllF (Own X.K emp H4 n) es vs F := AllF.impIn (fun d v G m p => Own.congr (Same.refl _) (fun a ha => by
            cases ea : H a with
            | none => exact absurd ea (Own.there p a ha)
            | some x => exact s34 a x ea) p) o
          have nG : Dp ∉ G := fun m => by
            have z := frG _ m
            rw [s3 _ _ hv] at z
            cases z
          have nF : Dp ∉ F := fun m => by
            have z := fr _ m
            rw [upd_same] at z
            cases z
          have z4 : vs.length = es.length := o.len
          refine ⟨vs, s34 _ _ hv, by omega, es ++ [x], vs ++ [v], F ++ G, by rw [List.length_append, List.length_singleton]; omega, ?_, ?_, upd_same, ?_, ?_, ?_⟩
          · rw [e]
            cases compL c f (ds.drop (j + 1)) with
            | none => rfl
            | some r => simp
          · intro b ob hb
            rw [upd_ne (ne_of_none hb hD)]
            exact s34 _ _ (sm _ _ hb)
          · have o5 : AllF (Own X.K emp H4 n) (es ++ [x]) (vs ++ [v]) (F ++ G) := AllF.append o4 (AllF.one oG)
            exact AllF.impIn (fun d v T m p => Own.congr (Same.refl _) (fun a ha => upd_ne (fun z => by
              subst z
              rcases List.mem_append.mp (m _ ha) with w | w
              · exact nF w
              · exact nG w)) p) o5
          · refine List.nodup_append.mpr ⟨nd, ndG, fun a ha b hb e => ?_⟩
            subst e
            exact AllF.there o a ha ((s3.free (frG a hb)))
          · intro a m
            rcases List.mem_append.mp m with m | m
            · exact fr a m
            · have : a ≠ Dp := fun z => nG (by rw [← z]; exact m)
              rw [upd_ne this]
              exact sm.free (s3.free (frG a m))
        | exc n => rw [hfd] at no; exact absurd rfl no
        | err => rw [hfd] at no; exact absurd rfl no
    | exc n => rw [hcd] at no; exact absurd rfl no
    | err => rw [hcd] at no; exact absurd rfl no
  · rintro H ⟨es, vs, F, hl, e, sm, hv, o, nd, fr⟩
    rw [List.drop_length] at e
    have e2 : compL c f ds = some es := by rw [e]; simp [compL]
    rw [e2] at q
    refine (q : ∀ v H', _) (.ref Dp) H sm ⟨Dp :: F, ⟨Dp, vs, F, rfl, hv, o, rfl⟩, List.nodup_cons.mpr ⟨fun m => ?_, nd⟩, fun a m => ?_⟩
    · have z := fr _ m
      rw [upd_same] at z
      cases z
    · rcases List.mem_cons.mp m with m | m
      · rw [m]; exact hD
      · have z := fr a m
        by_cases c : a = Dp
        · rw [c]; exact hD
        · rw [upd_ne c] at z; exact z

def compS (c : D → Rs Bool) (f : D → Rs D) : D → Rs D
  | .lst ds => compD c f ds
  | _ => .err
def rng1 : List D → Rs Nat
  | [.int j] => if -(2 ^ 62) ≤ j ∧ j < 2 ^ 62 then .nx j.toNat else .err
  | _ => .err
def upto (n : Nat) : List D := (List.range n).map fun (i : Nat) => D.int i
def yes (_ : D) : Rs Bool := .nx true
section
variable {elt iter : Expr} {x : Str} {px : Pos} {scope : Scope} {i n : Nat} {oi : Rs D} {f : D → Rs D} {c : D → Rs Bool} {cnd : Expr}
theorem lc_src {tt : TT} {te : TE} {σ : Sg} {H : Hp} {Q : VK} (hit : Ev X W .R iter ρ oi) (hi : i < ρ.length) (hr : RdF X.K H σ ρ)
    (hc : ∀ (d : D) (σ : Sg) (H : Hp) (Q : Bool → Hp → Prop), RdF X.K H σ (ρ.set i (some d)) → PostT X W0 σ H Q (c d) → tt σ H Q)
    (hf : ∀ (d : D) (σ : Sg) (H : Hp) (Q : VK), RdF X.K H σ (ρ.set i (some d)) → PostE X W0 (.O n) σ H Q (f d) → te σ H Q)
    (q : PostE X W (.O (n + 1)) σ H Q (oi.bind (compS c f))) : tLc (iList X.K (wE X iter)) (gName i) tt te [i] σ H Q := by
  show wE X iter σ H _
  refine hit.then hr q fun d v H1 s1 r q1 => ?_
  cases d <;> first | exact q1.elim | skip
  rename_i ds
  have r : Rep X.K H1 (.lst ds) v := r
  unfold Rep at r
  obtain ⟨a, vs, e, ha, ru⟩ := r
  have q1 : PostE X W (.O (n + 1)) σ H1 Q (compD c f ds) := q1
  unfold compD at q1
  by_cases hz : ds.length ≤ sizeLine
  · rw [if_pos hz] at q1
    refine ⟨a, e, ⟨vs, SqL.of ha⟩, fun Dp hD => ?_⟩
    obtain ⟨Pv, p0, psm, pst, pend⟩ := comp_turns (item := fun j => (vs[j]?).getD .non) (hr.mono s1) hi hD hz hc hf (fun j d hd => by
      obtain ⟨w, hw, rw'⟩ := ru.get hd
      rw [hw]
      exact rw') q1
    refine lc_list (xs := vs) Pv p0 (fun j H' _ p => SqL.of (psm j H' p _ _ ha)) (fun j y H' hy p => ?_) (fun H' p => pend H' (by rw [← ru.len]; exact p))
    have hj : j < ds.length := by
      rw [← ru.len]
      exact (List.getElem?_eq_some_iff.mp hy).1
    have z := pst j H' hj p
    rw [hy] at z
    exact z
  · rw [if_neg hz] at q1
    exact q1.elim
/-- [elt for x in iter] -/
theorem ev_lc (hit : Ev X W .R iter ρ oi) (hN : X.N.Nodup) (ok : BlkOk X.N X.env.scope scope [(x, i)]) (hib : Nat.blt i ρ.length = true)
    (he : ∀ (s : Shared) (H : Hp) (C : Addr) (cl : List (Str × Addr)) (fp : List Addr) (d : D), Ev (X.blk s H scope (compEnvC scope cl C X.env) fp) W0 (.O n) elt (ρ.set i (some d)) (f d))
    (hg : ∀ (s : Shared) (H : Hp) (C : Addr) (cl : List (Str × Addr)) (fp : List Addr), PG (X.blk s H scope (compEnvC scope cl C X.env) fp) (.Name x px) (gName i)) (hcalm : X.calm = true := by rfl)
    (hs : ∀ x, foldedSetIterable iter X.env x = pure x := by intro _; rfl) :
    EvC X W (.O (n + 1)) (.ListComp elt [⟨.Name x px, iter, [], 0⟩] scope pos) ρ (oi.bind (compS yes f)) := by
  have hi : i < ρ.length := Nat.le_of_ble_eq_true hib
  refine ⟨_, pe_lc (te := fun σ H Q => ∀ (s : Shared) (H' : Hp) (C : Addr) (cl : List (Str × Addr)) (fp : List Addr), wE (X.blk s H' scope (compEnvC scope cl C X.env) fp) elt σ H Q) hcalm hN (pi_list (wE.pe X iter)) ok hg (fun _ _ _ _ _ => pts_nil)
    (fun s H C cl fp => ⟨fun pins s1 σ H1 Q I h => h s H C cl fp pins s1 I⟩) hs, fun i0 y py spos hy hyl hsw => ps_setLc (te := fun σ H Q => ∀ (s : Shared) (H' : Hp) (C : Addr) (cl : List (Str × Addr)) (fp : List Addr), wE (X.blk s H' scope (compEnvC scope cl C X.env) fp) elt σ H Q) hcalm hN hy hyl hsw (pi_list (wE.pe X iter)) ok hg (fun _ _ _ _ _ => pts_nil)
    (fun s H C cl fp => ⟨fun pins s1 σ H1 Q I h => h s H C cl fp pins s1 I⟩) hs, fun σ H Q hr q => ?_⟩
  exact lc_src (c := yes) hit hi hr (fun d σ H Q _ p => (p : ∀ H', Same H H' → Q true H') H (Same.refl _)) (fun d σ H Q rr p s H' C cl fp => he s H' C cl fp d σ H Q rr p) q
/-- [elt for x in iter if cnd] -/
theorem ev_lcIf (hit : Ev X W .R iter ρ oi) (hN : X.N.Nodup) (ok : BlkOk X.N X.env.scope scope [(x, i)]) (hib : Nat.blt i ρ.length = true)
    (ht : ∀ (s : Shared) (H : Hp) (C : Addr) (cl : List (Str × Addr)) (fp : List Addr) (d : D), EvT (X.blk s H scope (compEnvC scope cl C X.env) fp) W0 cnd (ρ.set i (some d)) (c d))
    (he : ∀ (s : Shared) (H : Hp) (C : Addr) (cl : List (Str × Addr)) (fp : List Addr) (d : D), Ev (X.blk s H scope (compEnvC scope cl C X.env) fp) W0 (.O n) elt (ρ.set i (some d)) (f d))
    (hg : ∀ (s : Shared) (H : Hp) (C : Addr) (cl : List (Str × Addr)) (fp : List Addr), PG (X.blk s H scope (compEnvC scope cl C X.env) fp) (.Name x px) (gName i)) (hcalm : X.calm = true := by rfl)
    (hs : ∀ x, foldedSetIterable iter X.env x = pure x := by intro _; rfl) :
    EvC X W (.O (n + 1)) (.ListComp elt [⟨.Name x px, iter, [cnd], 0⟩] scope pos) ρ (oi.bind (compS c f)) := by
  have hi : i < ρ.length := Nat.le_of_ble_eq_true hib
  refine ⟨_, pe_lc (te := fun σ H Q => ∀ (s : Shared) (H' : Hp) (C : Addr) (cl : List (Str × Addr)) (fp : List Addr), wE (X.blk s H' scope (compEnvC scope cl C X.env) fp) elt σ H Q)
    (tt := fun σ H Q => ∀ (s : Shared) (H' : Hp) (C : Addr) (cl : List (Str × Addr)) (fp : List Addr), wT (X.blk s H' scope (compEnvC scope cl C X.env) fp) cnd σ H Q) hcalm hN (pi_list (wE.pe X iter)) ok hg
    (fun s H C cl fp => pts_one ⟨fun pins s1 σ H1 Q I h => h s H C cl fp pins s1 I⟩)
    (fun s H C cl fp => ⟨fun pins s1 σ H1 Q I h => h s H C cl fp pins s1 I⟩) hs, fun i0 y py spos hy hyl hsw => ps_setLc (te := fun σ H Q => ∀ (s : Shared) (H' : Hp) (C : Addr) (cl : List (Str × Addr)) (fp : List Addr), wE (X.blk s H' scope (compEnvC scope cl C X.env) fp) elt σ H Q)
    (tt := fun σ H Q => ∀ (s : Shared) (H' : Hp) (C : Addr) (cl : List (Str × Addr)) (fp : List Addr), wT (X.blk s H' scope (compEnvC scope cl C X.env) fp) cnd σ H Q) hcalm hN hy hyl hsw (pi_list (wE.pe X iter)) ok hg
    (fun s H C cl fp => pts_one ⟨fun pins s1 σ H1 Q I h => h s H C cl fp pins s1 I⟩)
    (fun s H C cl fp => ⟨fun pins s1 σ H1 Q I h => h s H C cl fp pins s1 I⟩) hs, fun σ H Q hr q => ?_⟩
  exact lc_src (c := c) hit hi hr (fun d σ H Q rr p s H' C cl fp => ht s H' C cl fp d σ H Q rr p) (fun d σ H Q rr p s H' C cl fp => he s H' C cl fp d σ H Q rr p) q
/-- over range(e) -/
def compRg (c : D → Rs Bool) (f : D → Rs D) (m : Nat) : Rs D := compD c f (upto m)
theorem lc_srcR {tt : TT} {te : TE} {σ : Sg} {H : Hp} {Q : VK} {oa : Rs (List D)} (hit : EvL X W .R es ρ oa) (hi : i < ρ.length) (hr : RdF X.K H σ ρ)
    (hc : ∀ (d : D) (σ : Sg) (H : Hp) (Q : Bool → Hp → Prop), RdF X.K H σ (ρ.set i (some d)) → PostT X W0 σ H Q (c d) → tt σ H Q)
    (hf : ∀ (d : D) (σ : Sg) (H : Hp) (Q : VK), RdF X.K H σ (ρ.set i (some d)) → PostE X W0 (.O n) σ H Q (f d) → te σ H Q)
    (q : PostE X W (.O (n + 1)) σ H Q (oa.bind fun as => (rng1 as).bind (compRg c f))) : tLc (iRng1 (wA X es)) (gName i) tt te [i] σ H Q := by
  show wA X es σ H _
  refine hit.then hr q fun as vs H1 s1 r q1 => ?_
  unfold rng1 at q1
  split at q1
  · rename_i j
    by_cases hb : -(2 ^ 62) ≤ j ∧ j < 2 ^ 62
    · rw [if_pos hb] at q1
      have q1 : PostE X W (.O (n + 1)) σ H1 Q (compD c f (upto j.toNat)) := q1
      obtain ⟨v, e, rv⟩ := repL1 r
      unfold Rep at rv
      refine ⟨j, by rw [e, rv], hb.1, hb.2, fun Dp hD => ?_⟩
      have hlen : (upto j.toNat).length = j.toNat := by simp [upto]
      unfold compD at q1
      by_cases hz : (upto j.toNat).length ≤ sizeLine
      · rw [if_pos hz] at q1
        obtain ⟨Pv, p0, psm, pst, pend⟩ := comp_turns (item := fun t => .int (0 + (t : Nat))) (hr.mono s1) hi hD hz hc hf (fun t d hd => by
          unfold upto at hd
          rw [List.getElem?_map] at hd
          cases et : (List.range j.toNat)[t]? with
          | none => rw [et] at hd; cases hd
          | some u =>
            rw [et] at hd
            cases hd
            obtain ⟨ht, et⟩ := List.getElem?_eq_some_iff.mp et
            rw [List.getElem_range] at et
            unfold Rep
            rw [← et]
            simp) q1
        exact lc_range (lo := 0) (n := j.toNat) Pv p0 (fun t H' ht p => pst t H' (by rw [hlen]; exact ht) p) (fun H' p => pend H' (by rw [hlen]; exact p))
      · rw [if_neg hz] at q1
        exact q1.elim
    · rw [if_neg hb] at q1
      exact q1.elim
  · exact q1.elim
theorem ev_lcR {p : Pos} {oa : Rs (List D)} {ea : Expr} {pos2 : Pos} (hm : X.mg "range" = none) (hit : EvL X W .R [ea] ρ oa) (hN : X.N.Nodup) (ok : BlkOk X.N X.env.scope scope [(x, i)]) (hib : Nat.blt i ρ.length = true)
    (he : ∀ (s : Shared) (H : Hp) (C : Addr) (cl : List (Str × Addr)) (fp : List Addr) (d : D), Ev (X.blk s H scope (compEnvC scope cl C X.env) fp) W0 (.O n) elt (ρ.set i (some d)) (f d))
    (hg : ∀ (s : Shared) (H : Hp) (C : Addr) (cl : List (Str × Addr)) (fp : List Addr), PG (X.blk s H scope (compEnvC scope cl C X.env) fp) (.Name x px) (gName i)) (hcalm : X.calm = true := by rfl) (hgl : Gl X "range" := by rfl)
    (hst : starEach [ea] X.env = [(false, eval ea X.env)] := by rfl) (hs : ∀ y, foldedSetIterable (.Call (.Name "range" p) [ea] [] pos2) X.env y = pure y := by intro _; rfl) :
    EvC X W (.O (n + 1)) (.ListComp elt [⟨.Name x px, .Call (.Name "range" p) [ea] [] pos2, [], 0⟩] scope pos) ρ (oa.bind fun as => (rng1 as).bind (compRg yes f)) := by
  have hi : i < ρ.length := Nat.le_of_ble_eq_true hib
  refine ⟨_, pe_lc (te := fun σ H Q => ∀ (s : Shared) (H' : Hp) (C : Addr) (cl : List (Str × Addr)) (fp : List Addr), wE (X.blk s H' scope (compEnvC scope cl C X.env) fp) elt σ H Q) hcalm hN (pi_range1 hgl hm (wA.pa X [ea]) hst) ok hg (fun _ _ _ _ _ => pts_nil)
    (fun s H C cl fp => ⟨fun pins s1 σ H1 Q I h => h s H C cl fp pins s1 I⟩) hs, fun i0 y py spos hy hyl hsw => ps_setLc (te := fun σ H Q => ∀ (s : Shared) (H' : Hp) (C : Addr) (cl : List (Str × Addr)) (fp : List Addr), wE (X.blk s H' scope (compEnvC scope cl C X.env) fp) elt σ H Q) hcalm hN hy hyl hsw (pi_range1 hgl hm (wA.pa X [ea]) hst) ok hg (fun _ _ _ _ _ => pts_nil)
    (fun s H C cl fp => ⟨fun pins s1 σ H1 Q I h => h s H C cl fp pins s1 I⟩) hs, fun σ H Q hr q => ?_⟩
  exact lc_srcR (c := yes) hit hi hr (fun d σ H Q _ p => (p : ∀ H', Same H H' → Q true H') H (Same.refl _)) (fun d σ H Q rr p s H' C cl fp => he s H' C cl fp d σ H Q rr p) q
theorem ev_lcRIf {p : Pos} {oa : Rs (List D)} {ea : Expr} {pos2 : Pos} (hm : X.mg "range" = none) (hit : EvL X W .R [ea] ρ oa) (hN : X.N.Nodup) (ok : BlkOk X.N X.env.scope scope [(x, i)]) (hib : Nat.blt i ρ.length = true)
    (ht : ∀ (s : Shared) (H : Hp) (C : Addr) (cl : List (Str × Addr)) (fp : List Addr) (d : D), EvT (X.blk s H scope (compEnvC scope cl C X.env) fp) W0 cnd (ρ.set i (some d)) (c d))
    (he : ∀ (s : Shared) (H : Hp) (C : Addr) (cl : List (Str × Addr)) (fp : List Addr) (d : D), Ev (X.blk s H scope (compEnvC scope cl C X.env) fp) W0 (.O n) elt (ρ.set i (some d)) (f d))
    (hg : ∀ (s : Shared) (H : Hp) (C : Addr) (cl : List (Str × Addr)) (fp : List Addr), PG (X.blk s H scope (compEnvC scope cl C X.env) fp) (.Name x px) (gName i)) (hcalm : X.calm = true := by rfl) (hgl : Gl X "range" := by rfl)
    (hst : starEach [ea] X.env = [(false, eval ea X.env)] := by rfl) (hs : ∀ y, foldedSetIterable (.Call (.Name "range" p) [ea] [] pos2) X.env y = pure y := by intro _; rfl) :
    EvC X W (.O (n + 1)) (.ListComp elt [⟨.Name x px, .Call (.Name "range" p) [ea] [] pos2, [cnd], 0⟩] scope pos) ρ (oa.bind fun as => (rng1 as).bind (compRg c f)) := by
  have hi : i < ρ.length := Nat.le_of_ble_eq_true hib
  refine ⟨_, pe_lc (te := fun σ H Q => ∀ (s : Shared) (H' : Hp) (C : Addr) (cl : List (Str × Addr)) (fp : List Addr), wE (X.blk s H' scope (compEnvC scope cl C X.env) fp) elt σ H Q)
    (tt := fun σ H Q => ∀ (s : Shared) (H' : Hp) (C : Addr) (cl : List (Str × Addr)) (fp : List Addr), wT (X.blk s H' scope (compEnvC scope cl C X.env) fp) cnd σ H Q) hcalm hN (pi_range1 hgl hm (wA.pa X [ea]) hst) ok hg
    (fun s H C cl fp => pts_one ⟨fun pins s1 σ H1 Q I h => h s H C cl fp pins s1 I⟩)
    (fun s H C cl fp => ⟨fun pins s1 σ H1 Q I h => h s H C cl fp pins s1 I⟩) hs, fun i0 y py spos hy hyl hsw => ps_setLc (te := fun σ H Q => ∀ (s : Shared) (H' : Hp) (C : Addr) (cl : List (Str × Addr)) (fp : List Addr), wE (X.blk s H' scope (compEnvC scope cl C X.env) fp) elt σ H Q)
    (tt := fun σ H Q => ∀ (s : Shared) (H' : Hp) (C : Addr) (cl : List (Str × Addr)) (fp : List Addr), wT (X.blk s H' scope (compEnvC scope cl C X.env) fp) cnd σ H Q) hcalm hN hy hyl hsw (pi_range1 hgl hm (wA.pa X [ea]) hst) ok hg
    (fun s H C cl fp => pts_one ⟨fun pins s1 σ H1 Q I h => h s H C cl fp pins s1 I⟩)
    (fun s H C cl fp => ⟨fun pins s1 σ H1 Q I h => h s H C cl fp pins s1 I⟩) hs, fun σ H Q hr q => ?_⟩
  exact lc_srcR (c := c) hit hi hr (fun d σ H Q rr p s H' C cl fp => ht s H' C cl fp d σ H Q rr p) (fun d σ H Q rr p s H' C cl fp => he s H' C cl fp d σ H Q rr p) q
/-- [x for x in iter if cnd], x not flat: what is shared is shared -/
def filtL (c : D → Rs Bool) : List D → Option (List D)
  | [] => some []
  | d :: r => match c d with
    | .nx true => (filtL c r).map (d :: ·)
    | .nx false => filtL c r
    | _ => none
def filtD (c : D → Rs Bool) : D → Rs D
  | .lst ds => if ds.length ≤ sizeLine then ofL (filtL c ds) else .err
  | _ => .err
theorem filtL_cons (c : D → Rs Bool) (d : D) (r : List D) : filtL c (d :: r) = match c d with
    | .nx true => (filtL c r).map (d :: ·)
    | .nx false => filtL c r
    | _ => none := rfl
theorem ev_lcF {p2 : Pos} (hit : Ev X W .R iter ρ oi) (hN : X.N.Nodup) (ok : BlkOk X.N X.env.scope scope [(x, i)]) (hib : Nat.blt i ρ.length = true)
    (ht : ∀ (s : Shared) (H : Hp) (C : Addr) (cl : List (Str × Addr)) (fp : List Addr) (d : D), EvT (X.blk s H scope (compEnvC scope cl C X.env) fp) W0 cnd (ρ.set i (some d)) (c d))
    (he : ∀ (s : Shared) (H : Hp) (C : Addr) (cl : List (Str × Addr)) (fp : List Addr), PE (X.blk s H scope (compEnvC scope cl C X.env) fp) (.Name x p2) (tVar i))
    (hg : ∀ (s : Shared) (H : Hp) (C : Addr) (cl : List (Str × Addr)) (fp : List Addr), PG (X.blk s H scope (compEnvC scope cl C X.env) fp) (.Name x px) (gName i)) (hcalm : X.calm = true := by rfl)
    (hs : ∀ x, foldedSetIterable iter X.env x = pure x := by intro _; rfl) :
    EvC X W .R (.ListComp (.Name x p2) [⟨.Name x px, iter, [cnd], 0⟩] scope pos) ρ (oi.bind (filtD c)) := by
  have hi : i < ρ.length := Nat.le_of_ble_eq_true hib
  refine ⟨_, pe_lc (te := tVar i)
    (tt := fun σ H Q => ∀ (s : Shared) (H' : Hp) (C : Addr) (cl : List (Str × Addr)) (fp : List Addr), wT (X.blk s H' scope (compEnvC scope cl C X.env) fp) cnd σ H Q) hcalm hN (pi_list (wE.pe X iter)) ok hg
    (fun s H C cl fp => pts_one ⟨fun pins s1 σ H1 Q I h => h s H C cl fp pins s1 I⟩) he hs, fun i0 y py spos hy hyl hsw => ps_setLc (te := tVar i)
    (tt := fun σ H Q => ∀ (s : Shared) (H' : Hp) (C : Addr) (cl : List (Str × Addr)) (fp : List Addr), wT (X.blk s H' scope (compEnvC scope cl C X.env) fp) cnd σ H Q) hcalm hN hy hyl hsw (pi_list (wE.pe X iter)) ok hg
    (fun s H C cl fp => pts_one ⟨fun pins s1 σ H1 Q I h => h s H C cl fp pins s1 I⟩) he hs, fun σ H Q hr q => ?_⟩
  show wE X iter σ H _
  refine hit.then hr q fun d v H1 s1 r q1 => ?_
  cases d <;> first | exact q1.elim | skip
  rename_i ds
  have r : Rep X.K H1 (.lst ds) v := r
  unfold Rep at r
  obtain ⟨a, vs, e, ha, ru⟩ := r
  have q1 : PostE X W .R σ H1 Q (if ds.length ≤ sizeLine then ofL (filtL c ds) else .err) := q1
  by_cases hz : ds.length ≤ sizeLine
  · rw [if_pos hz] at q1
    refine ⟨a, e, ⟨vs, SqL.of ha⟩, fun Dp hD => ?_⟩
    refine lc_list (K := X.K) (a := a) (xs := vs) (g := gName i) (tt := fun σ H Q => ∀ (s : Shared) (H' : Hp) (C : Addr) (cl : List (Str × Addr)) (fp : List Addr), wT (X.blk s H' scope (compEnvC scope cl C X.env) fp) cnd σ H Q) (te := tVar i) (vs := [i]) (σ := σ) (H1 := H1) (D := Dp) (Qd := fun H => Q (.ref Dp) H) (fun j H' => ∃ (es : List D) (us : List V), es.length ≤ j ∧ filtL c ds = (filtL c (ds.drop j)).map (es ++ ·) ∧ Same H1 H' ∧ H' Dp = some (.lst us) ∧ RepL X.K H1 es us) ?_ ?_ ?_ ?_
    · exact ⟨[], [], Nat.le_refl _, by simp, same_new hD, upd_same, (RepL.nil : RepL X.K H1 [] [])⟩
    · rintro j H' _ ⟨es, us, _, _, sm, _⟩
      exact SqL.of (sm _ _ ha)
    · rintro j y H' hy ⟨es, us, hl, e, sm, hv, re⟩
      have hj : j < ds.length := by
        rw [← ru.len]
        exact (List.getElem?_eq_some_iff.mp hy).1
      obtain ⟨d, hd⟩ : ∃ d, ds[j]? = some d := ⟨_, List.getElem?_eq_getElem hj⟩
      have dr : ds.drop j = d :: ds.drop (j + 1) := by
        rw [List.drop_eq_getElem_cons hj]
        rw [List.getElem?_eq_getElem hj] at hd
        cases hd
        rfl
      obtain ⟨w, hw, rw'⟩ := ru.get hd
      rw [hy] at hw
      cases hw
      have rr : RdF X.K H' ((wipe σ [i]).set i (some y)) (ρ.set i (some d)) := (hr.mono (s1.trans sm)).bindV hi (Rep.mono sm _ _ rw')
      refine ⟨wipe_set, fun s2 H2 C cl fp => ht s2 H2 C cl fp d _ H' _ rr ?_⟩
      rw [dr] at e
      have no : filtL c (d :: ds.drop (j + 1)) ≠ none := fun z => by
        rw [z] at e
        rw [e] at q1
        exact q1
      rw [filtL_cons] at no e
      cases hcd : c d with
      | nx b =>
        rw [hcd] at no e
        intro H3 s3
        cases b with
        | false =>
          rw [if_neg Bool.false_ne_true]
          exact ⟨es, us, by omega, e, sm.trans s3, s3 _ _ hv, re⟩
        | true =>
          rw [if_pos rfl]
          refine ⟨y, ?_, us, s3 _ _ hv, ?_, es ++ [d], us ++ [y], by rw [List.length_append, List.length_singleton]; omega, ?_, ?_, upd_same, RepL.append re (RepL.cons rw' RepL.nil)⟩
          · rw [List.getElem?_set_self (by rw [wipe_length, hr.len]; exact hi)]
          · rw [re.len]; omega
          · rw [e]
            cases filtL c (ds.drop (j + 1)) with
            | none => rfl
            | some r => simp
          · intro b ob hb
            rw [upd_ne (ne_of_none hb hD)]
            exact s3 _ _ (sm _ _ hb)
      | exc n => rw [hcd] at no; exact absurd rfl no
      | err => rw [hcd] at no; exact absurd rfl no
    · rintro H' ⟨es, us, hl, e, sm, hv, re⟩
      rw [ru.len, List.drop_length] at e
      have e2 : filtL c ds = some es := by rw [e]; simp [filtL]
      rw [e2] at q1
      refine (q1 : ∀ v H', _) (.ref Dp) H' sm ?_
      show Rep X.K H' (.lst es) (.ref Dp)
      unfold Rep
      exact ⟨Dp, us, rfl, hv, RepL.mono sm _ _ re⟩
  · rw [if_neg hz] at q1
    exact q1.elim
end
/-! ### calls of defs -/
def PostF (K : PySem.W.Frag) (mg : Str → Option Value) (k : Kd) (H : Hp) (Q : VK) (E : XK) : Out Unit Unit → Prop
  | .rt d => ∀ v H', Same H H' → k.sat K H H' d v → Q v H'
  | .nx _ => ∀ H', Same H H' → Q .non H'
  | .exc n => ∀ C, mg n = some (.ref C) → ∀ H', Same H H' → E (.ref C) none H'
  | _ => False
/-- the promise of a def that answers f -/
def spF (K : PySem.W.Frag) (mg : Str → Option Value) (k : Kd) (f : List D → Out Unit Unit) : Sp := fun vs H Q E => ∃ ds, RepL K H ds vs ∧ PostF K mg k H Q E (f ds)
def fn1 (g : D → Out Unit Unit) : List D → Out Unit Unit
  | [a] => g a
  | _ => .err
def fn2 (g : D → D → Out Unit Unit) : List D → Out Unit Unit
  | [a, b] => g a b
  | _ => .err
def fn3 (g : D → D → D → Out Unit Unit) : List D → Out Unit Unit
  | [a, b, c] => g a b c
  | _ => .err
def PostN (K : PySem.W.Frag) (k : Kd) (H : Hp) (Q : VK) : Out Unit Unit → Prop
  | .rt d => ∀ v H', Same H H' → k.sat K H H' d v → Q v H'
  | .nx _ => ∀ H', Same H H' → Q .non H'
  | _ => False
/-- .. from which no exception leaves -/
def spN (K : PySem.W.Frag) (k : Kd) (f : List D → Out Unit Unit) : Sp := fun vs H Q _ => ∃ ds, RepL K H ds vs ∧ PostN K k H Q (f ds)
theorem spN_len {K : PySem.W.Frag} {f : List D → Out Unit Unit} {n : Nat} {vs : List V} {H : Hp} {Q : VK} {E : XK} (ar : ∀ ds, f ds ≠ .err → ds.length = n) (h : spN K k f vs H Q E) : vs.length = n := by
  obtain ⟨ds, r, p⟩ := h
  rw [r.len]
  exact ar ds fun z => by rw [z] at p; exact p
theorem spF_len {K : PySem.W.Frag} {mg : Str → Option Value} {f : List D → Out Unit Unit} {n : Nat} {vs : List V} {H : Hp} {Q : VK} {E : XK} (ar : ∀ ds, f ds ≠ .err → ds.length = n) (h : spF K mg k f vs H Q E) : vs.length = n := by
  obtain ⟨ds, r, p⟩ := h
  rw [r.len]
  exact ar ds fun z => by rw [z] at p; exact p
theorem ar1 {g : D → Out Unit Unit} : ∀ ds, fn1 g ds ≠ .err → ds.length = 1 := fun ds h => by
  unfold fn1 at h
  split at h
  · rfl
  · exact absurd rfl h
theorem ar2 {g : D → D → Out Unit Unit} : ∀ ds, fn2 g ds ≠ .err → ds.length = 2 := fun ds h => by
  unfold fn2 at h
  split at h
  · rfl
  · exact absurd rfl h
theorem ar3 {g : D → D → D → Out Unit Unit} : ∀ ds, fn3 g ds ≠ .err → ds.length = 3 := fun ds h => by
  unfold fn3 at h
  split at h
  · rfl
  · exact absurd rfl h
/-- the answer of a def's call; one from which no exception leaves -/
def callX : Out Unit Unit → Rs D
  | .rt d => .nx d
  | .nx _ => .nx .non
  | .exc n => .exc n
  | _ => .err
def callN : Out Unit Unit → Rs D
  | .rt d => .nx d
  | .nx _ => .nx .non
  | _ => .err
@[simp] theorem callX_rt (d : D) : callX (.rt d) = .nx d := id rfl
@[simp] theorem callX_nx (u : Unit) : callX (.nx u) = .nx .non := id rfl
@[simp] theorem callX_exc (n : Str) : callX (.exc n) = .exc n := id rfl
@[simp] theorem callN_rt (d : D) : callN (.rt d) = .nx d := id rfl
@[simp] theorem callN_nx (u : Unit) : callN (.nx u) = .nx .non := id rfl
section
variable {x : Str} {p : Pos} {fa : Addr} {fd : FuncData} {ps : List Str} {kk : Nat} {f : List D → Out Unit Unit} {o : Rs (List D)}
theorem ev_call0 (F : FnOk X.prog X.w X.K X.mg X.base CX0 kk fa fd ps (spN X.K k f)) (hr : Room kk X.A) (hm : X.mg x = some (.ref fa)) (hk : PySem.W.keepIn X.K (.ref fa) = true) (hb : Binds X.K fd ps [])
    (ha : EvL X W .R (e :: es) ρ o) (hg : Gl X x := by rfl) (hdb : (x == ("__debug__" : Str)) = false := by decide) (he : starEach (e :: es) X.env = (false, eval e X.env) :: starEach es X.env := by rfl)
    (hpl : (backTo pos (starEach es X.env)).any (·.1) = false := by rfl) : Ev X W k (.Call (.Name x p) (e :: es) [] pos) ρ (o.bind fun ds => callN (f ds)) := fun σ H Q hr' q => by
  refine wE.of (pe_call F hr hg hm hk hb .nil pass0 (wA.pa X _) hdb he hpl) ?_
  show wA X (e :: es) σ H _
  refine ha.then hr' q fun ds vs H1 s1 rs q1 => ?_
  rw [List.append_nil]
  refine ⟨ds, rs, ?_⟩
  cases ef : f ds with
  | rt d => rw [ef] at q1; exact q1
  | bk d => rw [ef] at q1; exact q1.elim
  | ct d => rw [ef] at q1; exact q1.elim
  | nx u => rw [ef] at q1; exact fun H' sm => (q1 : ∀ v H', _) _ H' sm (Kd.atom rfl (H2 := H') (by unfold Rep; rfl) k)
  | exc n => rw [ef] at q1; exact q1.elim
  | err => rw [ef] at q1; exact q1.elim
theorem ev_callX (F : FnOk X.prog X.w X.K X.mg X.base (L2.CX X.prog X.w) kk fa fd ps (spF X.K X.mg k f)) (tk : Takes X W) (hr : Room kk X.A) (hm : X.mg x = some (.ref fa)) (hk : PySem.W.keepIn X.K (.ref fa) = true) (hb : Binds X.K fd ps [])
    (ha : EvL X W .R (e :: es) ρ o) (hg : Gl X x := by rfl) (hdb : (x == ("__debug__" : Str)) = false := by decide) (he : starEach (e :: es) X.env = (false, eval e X.env) :: starEach es X.env := by rfl)
    (hpl : (backTo pos (starEach es X.env)).any (·.1) = false := by rfl) : Ev X W k (.Call (.Name x p) (e :: es) [] pos) ρ (o.bind fun ds => callX (f ds)) := fun σ H Q hr' q => by
  refine wE.of (pe_callS F hr hg hm hk hb (fun σ => passAt tk σ) (wA.pa X _) hdb he hpl) ?_
  show wA X (e :: es) σ H _
  refine ha.then hr' q fun ds vs H1 s1 rs q1 => ?_
  refine ⟨ds, rs, ?_⟩
  cases ef : f ds with
  | rt d => rw [ef] at q1; exact q1
  | bk d => rw [ef] at q1; exact q1.elim
  | ct d => rw [ef] at q1; exact q1.elim
  | nx u => rw [ef] at q1; exact fun H' sm => (q1 : ∀ v H', _) _ H' sm (Kd.atom rfl (H2 := H') (by unfold Rep; rfl) k)
  | exc n => rw [ef] at q1; exact q1
  | err => rw [ef] at q1; exact q1.elim
end
end
end Sw

/- part SwSt -/
/-! Statements: frames in, frames out. -/
namespace Sw
open PySem PySem.Spec PyProof.Rows L2
def wS (X : Cx) (st : Stmt) : TS := fun D σ H => ∀ (pins : List (Addr × Obj)) (s : Shared), Inv X pins σ H s → wpAny (model X.prog X.w) X.A (exec st X.env) (SP X pins D) X.xe s
def wSs (X : Cx) (st : List Stmt) : TS := fun D σ H => ∀ (pins : List (Addr × Obj)) (s : Shared), Inv X pins σ H s → wpAny (model X.prog X.w) X.A (execs st X.env) (SP X pins D) X.xe s
theorem wS.ps (X : Cx) (e : Stmt) : PS X e (wS X e) := ⟨fun pins s σ H D I h => h pins s I⟩
theorem wSs.pss (X : Cx) (e : List Stmt) : PSs X e (wSs X e) := ⟨fun pins s σ H D I h => h pins s I⟩
theorem wS.of {X : Cx} {e : Stmt} {t : TS} (p : PS X e t) {σ : Sg} {H : Hp} {D : Ends} (h : t D σ H) : wS X e D σ H := fun pins s I => p.run pins s σ H D I h
theorem wSs.of {X : Cx} {e : List Stmt} {t : TS} (p : PSs X e t) {σ : Sg} {H : Hp} {D : Ends} (h : t D σ H) : wSs X e D σ H := fun pins s I => p.run pins s σ H D I h
theorem wSs.cons {X : Cx} {e : Stmt} {r : List Stmt} {t : TS} (p : PS X e t) {σ : Sg} {H : Hp} {D : Ends} (h : t { D with nx := wSs X r D } σ H) : wSs X (e :: r) D σ H := wSs.of (pss_cons p (wSs.pss X r)) h

/-- what has to follow upon a block's answer; k: how the def's result is held; mk, lk: the slots behind the block, at the loop's next turn -/
def PostS (X : Cx) (W : WX) (xv : List Slot) (k : Kd) (H0 : Hp) (D : Ends) {α β : Type} (mk : α → List Slot) (lk : β → List Slot) : Out β α → Prop
  | .nx a => ∀ σ' H', Fr X.K H0 H' σ' (mk a) → D.nx σ' H'
  | .rt d => ∀ v H', Same H0 H' → k.sat X.K H0 H' d v → D.rt v H'
  | .bk b => ∀ σ' H', Fr X.K H0 H' σ' (lk b) → D.bk σ' H'
  | .ct b => ∀ σ' H', Fr X.K H0 H' σ' (lk b) → D.ct σ' H'
  | .exc n => ∀ C, X.mg n = some (.ref C) → ∀ σ' H', Same H0 H' → (xv = [] ∨ Fr X.K H0 H' σ' xv) → W (.ref C) none σ' H'
  | .err => False
/-- the block sts, at the slots env, answers o -/
def Ex (X : Cx) (W : WX) (xv : List Slot) (k : Kd) (sts : List Stmt) (env : List Slot) {α β : Type} (o : Out β α) (mk : α → List Slot) (lk : β → List Slot) : Prop :=
  ∀ (H0 : Hp) (σ : Sg) (H : Hp) (D : Ends), Fr X.K H0 H σ env → PostS X W xv k H0 D mk lk o → wSs X sts D σ H
abbrev dat (env : List Slot) : List (Option D) := env.map Slot.d?
/-- e answers d, held by n levels; the slots are then env' -/
def EvM (X : Cx) (W : WX) (n : Nat) (e : Expr) (env env' : List Slot) (o : Rs D) : Prop :=
  ∀ (H0 : Hp) (σ : Sg) (H : Hp) (Q : VK), Fr X.K H0 H σ env →
    (match o with
      | .nx d => ∀ v H', Same H H' → Fr X.K H0 H' (some v :: σ) (.S n d :: env') → Q v H'
      | .exc m => ∀ C, X.mg m = some (.ref C) → ∀ H', Same H H' → W (.ref C) none σ H'
      | _ => False) → wE X e σ H Q
/-- what exceptions want of the slots -/
def XOk (env xv : List Slot) : Prop := xv = [] ∨ Wk env xv
section
variable {X : Cx} {W : WX} {xv : List Slot} {k : Kd} {α β γ : Type} {env env' : List Slot} {mk : α → List Slot} {lk : β → List Slot} {e : Expr} {rest : List Stmt} {pos : Pos} {H0 H H' : Hp} {σ : Sg} {D : Ends}
theorem Fr.toXv (h : Fr X.K H0 H σ env) (hx : XOk env xv) : xv = [] ∨ Fr X.K H0 H σ xv := hx.imp id fun w => h.wk w
/-- an answer of what comes first, where the block goes on by g -/
theorem PostS.first {o : Out β γ} {g : γ → Out β α} (h : PostS X W xv k H0 D mk lk (o.bind g)) {D' : Ends} {mk' : γ → List Slot} (hn : ∀ c, PostS X W xv k H0 D mk lk (g c) → ∀ σ' H', Fr X.K H0 H' σ' (mk' c) → D'.nx σ' H')
    (h1 : D'.rt = D.rt) (h2 : D'.bk = D.bk) (h3 : D'.ct = D.ct) : PostS X W xv k H0 D' mk' lk o := by
  cases o with
  | nx c => exact hn c h
  | rt d => exact fun v H' => by rw [h1]; exact h v H'
  | bk d => exact fun v H' => by rw [h2]; exact h v H'
  | ct d => exact fun v H' => by rw [h3]; exact h v H'
  | exc n => exact h
  | err => exact h
theorem Fr.push {n : Nat} {d : Sw.D} {v : V} (h : Fr X.K H0 H σ env) (sm : Same H H') (s : (Kd.O n).sat X.K H H' d v) : Fr X.K H0 H' (some v :: σ) (.S n d :: env) := by
  obtain ⟨Hs, F, x⟩ := h
  obtain ⟨G, o, nd, fr⟩ := s
  have y := x.grow sm
  exact ⟨Hs, G ++ F, y.low, y.up, ⟨v, σ, G, F, rfl, Own.congr (same_emp _) (fun _ _ => rfl) o, y.cls, rfl⟩, List.nodup_append.mpr ⟨nd, y.nd, fun a ha b hb e => by
    subst e
    exact Cls.there x.cls a hb (fr a ha)⟩, fun a m => by
    rcases List.mem_append.mp m with m | m
    · exact x.up.free (fr a m)
    · exact x.fresh a m⟩
theorem Fr.pop0 {s : Slot} {o : Option V} (h : Fr X.K H0 H (o :: σ) (s :: env)) : Fr X.K H0 H σ env := by
  obtain ⟨Hs, F, x⟩ := h
  cases s with
  | J =>
    obtain ⟨o', σ', e, r⟩ := x.cls
    cases e
    exact ⟨Hs, F, x.low, x.up, r, x.nd, x.fresh⟩
  | S n d =>
    obtain ⟨v, σ', F1, F2, e, p, r, eF⟩ := x.cls
    cases e
    exact ⟨Hs, F2, x.low, x.up, r, (by rw [eF] at *; exact (List.nodup_append.mp (eF ▸ x.nd)).2.1), fun a m => x.fresh a (by rw [eF]; exact List.mem_append_right _ m)⟩
theorem evM_O {n : Nat} {o : Rs Sw.D} (h : Ev X W (.O n) e (dat env) o) : EvM X W n e env env o := fun H0 σ H Q hF q => by
  refine h σ H Q hF.rd ?_
  cases o with
  | nx d => exact fun v H' sm s => q v H' sm (hF.push sm s)
  | exc m => exact q
  | err => exact q
theorem evM_A {n : Nat} {o : Rs Sw.D} (h : Ev X W .R e (dat env) o) : EvM X W n e env env (o.bind at?) := evM_O h.atom
/-- a slot's value goes away from it -/
theorem evM_var {n : Nat} {d : Sw.D} {x : Str} (i : Nat) (hi : env[i]? = some (.S n d) := by rfl) (hN : X.N[i]? = some x := by rfl)
    (hv : Vis X.env.scope x := by first | exact Or.inl rfl | exact Or.inr (Or.inl rfl) | exact Or.inr (Or.inr rfl)) (hd : (x == ("__debug__" : Str)) = false := by decide)
    (hcd : (x == ("__classdict__" : Str)) = false := by decide) : EvM X W n (.Name x pos) env (env.set i .J) (.nx d : Rs Sw.D) := fun H0 σ H Q hF q => by
  obtain ⟨Hs, F, x⟩ := hF
  obtain ⟨v, Fi, A, B, h1, h2, h3, h4, h5⟩ := Cls.at x.cls hi
  refine wE.of (pe_var hN hv hd hcd) ⟨v, h1, q v H (Same.refl _) ⟨Hs, Fi ++ (A ++ B), x.low, x.up, ⟨v, σ, Fi, A ++ B, rfl, h2, ?_, rfl⟩, ?_, ?_⟩⟩
  · have z := h5 Hs H (some v) (Same.refl _) (fun _ _ => rfl)
    have eσ : σ.set i (some v) = σ := by
      apply List.ext_getElem?
      intro j
      rw [List.getElem?_set]
      split
      · rename_i e; subst e; split
        · rw [h1]
        · rename_i hl; rw [List.getElem?_eq_none (by omega)] at h1; cases h1
      · rfl
    rw [eσ] at z
    exact z
  · have nd := x.nd
    rw [h3] at nd
    refine (List.Perm.nodup_iff ?_).mp nd
    rw [← List.append_assoc]
    exact List.Perm.append_right B List.perm_append_comm
  · intro a m
    refine x.fresh a ?_
    rw [h3]
    simp at m ⊢
    rcases m with m | m | m <;> simp [m]
/-- a shared slot's value, which stays -/
def EvS (X : Cx) (W : WX) (e : Expr) (env : List Slot) (o : Rs Sw.D) : Prop :=
  ∀ (H0 Hs : Hp) (σ : Sg) (H : Hp) (F : List Addr) (Q : VK), FrX X.K H0 Hs H σ env F →
    (match o with
      | .nx d => ∀ v H', Same H H' → Rep X.K Hs d v → Q v H'
      | .exc m => ∀ C, X.mg m = some (.ref C) → ∀ H', Same H H' → W (.ref C) none σ H'
      | _ => False) → wE X e σ H Q
theorem evS_var {d : Sw.D} {x : Str} (i : Nat) (hi : env[i]? = some (.S 0 d) := by rfl) (hN : X.N[i]? = some x := by rfl)
    (hv : Vis X.env.scope x := by first | exact Or.inl rfl | exact Or.inr (Or.inl rfl) | exact Or.inr (Or.inr rfl)) (hd : (x == ("__debug__" : Str)) = false := by decide)
    (hcd : (x == ("__classdict__" : Str)) = false := by decide) : EvS X W (.Name x pos) env (.nx d : Rs Sw.D) := fun H0 Hs σ H F Q hF q => by
  obtain ⟨v, Fi, A, B, h1, h2, h3, h4, h5⟩ := Cls.at hF.cls hi
  exact wE.of (pe_var hN hv hd hcd) ⟨v, h1, q v H (Same.refl _) h2.1⟩
theorem evS_ix {a b : Expr} {oa ob : Rs Sw.D} (ha : EvS X W a env oa) (hb : Ev X W .R b (dat env) ob) (hs : PlainIx b := by exact (fun _ _ => rfl)) : EvS X W (.Subscript a b pos) env (oa.bind fun x => ob.bind fun y => ixD x y) := fun H0 Hs σ H F Q hF q => by
  refine wE.of (pe_ix ix_seq (wE.pe X a) (wE.pe X b) hs) ?_
  show wE X a σ H _
  refine ha H0 Hs σ H F _ hF ?_
  cases oa with
  | nx x =>
    intro v H1 s1 rx
    have rx1 : Rep X.K H1 x v := Rep.mono (hF.up.trans s1) _ _ rx
    refine hb σ H1 _ (hF.rd.mono s1) ?_
    cases ob with
    | nx y =>
      intro w H2 s2 ry
      have ry : Rep X.K H2 y w := ry
      have q : (match (ixD x y : Rs Sw.D) with
        | .nx d => ∀ v H', Same H H' → Rep X.K Hs d v → Q v H'
        | .exc m => ∀ C, X.mg m = some (.ref C) → ∀ H', Same H H' → W (.ref C) none σ H'
        | _ => False) := q
      have s12 := s1.trans s2
      cases y with
      | int i =>
        unfold Rep at ry
        have seq : ∀ {x : Sw.D} {ds : List Sw.D}, asSeq x = some ds → Rep X.K Hs x v → (match (match atI ds i with | some d => (Rs.nx d : Rs Sw.D) | none => .err) with
          | .nx d => ∀ v H', Same H H' → Rep X.K Hs d v → Q v H'
          | .exc m => ∀ C, X.mg m = some (.ref C) → ∀ H', Same H H' → W (.ref C) none σ H'
          | _ => False) → rIx X.K v w H2 Q := fun {x ds} ha rx h => by
          cases e : atI ds i with
          | none => rw [e] at h; exact h.elim
          | some d =>
            rw [e] at h
            have h : ∀ v H', Same H H' → Rep X.K Hs d v → Q v H' := h
            cases x <;> first | (simp [asSeq] at ha; done) | skip
            · simp [asSeq] at ha
              subst ha
              unfold Rep at rx
              obtain ⟨p, vs, e1, hp, r⟩ := rx
              obtain ⟨u, hu, ru⟩ := atI_rep r e
              exact .inl ⟨p, vs, i, u, e1, ry, SqL.of ((hF.up.trans s12) _ _ hp), hu, h u H2 s12 ru⟩
            · simp [asSeq] at ha
              subst ha
              unfold Rep at rx
              obtain ⟨p, vs, e1, hp, r⟩ := rx
              obtain ⟨u, hu, ru⟩ := atI_rep r e
              exact .inr (.inl ⟨p, vs, i, u, e1, ry, SqT.of ((hF.up.trans s12) _ _ hp), hu, h u H2 s12 ru⟩)
            · simp [asSeq] at ha
              subst ha
              unfold Rep at rx
              obtain ⟨p, e1, hp⟩ := rx
              obtain ⟨u, hu, ru⟩ := atI_rep (K := X.K) (H := Hs) (RepL.ints.mpr rfl) e
              exact .inl ⟨p, _, i, u, e1, ry, (hF.up.trans s12).seq hp, hu, h u H2 s12 ru⟩
        cases x with
        | lst ds => exact seq (x := .lst ds) rfl rx q
        | tup ds => exact seq (x := .tup ds) rfl rx q
        | scr ds => exact seq (x := .scr ds) rfl rx q
        | non => exact q.elim
        | bl _ => exact q.elim
        | int _ => exact q.elim
        | hole => exact q.elim
        | ex _ => exact q.elim
        | pin _ _ => exact q.elim
        | str z =>
          unfold Rep at rx
          unfold ixD at q
          by_cases c : z.length ≤ sizeLine
          · simp only [if_pos c] at q
            cases e : atI z.cps.toList i with
            | none => rw [e] at q; exact q.elim
            | some t =>
              rw [e] at q
              exact .inr (.inr ⟨z, i, t, rx, ry, c, e, q _ H2 s12 (by unfold Rep; rfl)⟩)
          · simp only [if_neg c] at q
      | _ => cases x <;> exact q.elim
    | exc n => exact fun C hc H' sm => q C hc H' (s1.trans sm)
    | err => exact q
  | exc n => exact q
  | err => exact q
theorem evM_S {o : Rs Sw.D} (h : EvS X W e env o) : EvM X W 0 e env env o := fun H0 σ H Q hF q => by
  obtain ⟨Hs, F, x⟩ := hF
  refine h H0 Hs σ H F Q x ?_
  cases o with
  | nx d => exact fun v H' sm s => q v H' sm (by
      have y := x.grow sm
      exact ⟨Hs, F, y.low, y.up, ⟨v, σ, [], F, rfl, ⟨s, rfl⟩, y.cls, rfl⟩, y.nd, y.fresh⟩)
  | exc m => exact q
  | err => exact q
/-- a part of what a slot owns goes away from it -/
def itemAt (j : Nat) : Sw.D → Rs Sw.D
  | .lst ds => match ds[j]? with
    | some d => .nx d
    | none => .err
  | .tup ds => match ds[j]? with
    | some d => .nx d
    | none => .err
  | _ => .err
def holeAt (j : Nat) : Sw.D → Sw.D
  | .lst ds => .lst (ds.set j .hole)
  | .tup ds => .tup (ds.set j .hole)
  | d => d
theorem set_id {α : Type} {σ : List α} {i : Nat} {v : α} (h1 : σ[i]? = some v) : σ.set i v = σ := by
  apply List.ext_getElem?
  intro j
  rw [List.getElem?_set]
  split
  · rename_i e; subst e; split
    · rw [h1]
    · rename_i hl; rw [List.getElem?_eq_none (by omega)] at h1; cases h1
  · rfl
theorem own_hole {K : PySem.W.Frag} {Hs H : Hp} {v : V} : ∀ n, Own K Hs H n .hole v []
  | 0 => ⟨by unfold Rep; trivial, rfl⟩
  | n + 1 => rfl
theorem evM_item {n j jj : Nat} {d : Sw.D} {x : Str} {p p2 : Pos} (i : Nat) (hi : env[i]? = some (.S (n + 1) d) := by rfl) (hN : X.N[i]? = some x := by rfl)
    (hv : Vis X.env.scope x := by first | exact Or.inl rfl | exact Or.inr (Or.inl rfl) | exact Or.inr (Or.inr rfl)) (hd : (x == ("__debug__" : Str)) = false := by decide)
    (hcd : (x == ("__classdict__" : Str)) = false := by decide) (hs : PlainIx (.Constant (.int (j : Nat)) jj p2) := by exact (fun _ _ => rfl)) :
    EvM X W n (.Subscript (.Name x p) (.Constant (.int (j : Nat)) jj p2) pos) env (env.set i (.S (n + 1) (holeAt j d))) (itemAt j d) := fun H0 σ H Q hF q => by
  obtain ⟨Hs, F, x⟩ := hF
  obtain ⟨v, Fi, A, B, h1, h2, h3, h4, h5⟩ := Cls.at x.cls hi
  refine wE.of (pe_ix ix_seq (pe_var hN hv hd hcd) pe_int hs) ⟨v, h1, ?_⟩
  have nd := x.nd
  rw [h3] at nd
  have put : ∀ {di : Sw.D} {vi : V} {a : Addr} {A' Fd B' : List Addr}, Fi = a :: (A' ++ Fd ++ B') → Own X.K Hs H n di vi Fd → Own X.K Hs H (n + 1) (holeAt j d) v (a :: (A' ++ [] ++ B')) → Fr X.K H0 H (some vi :: σ) (.S n di :: env.set i (.S (n + 1) (holeAt j d))) := fun {di vi a A' Fd B'} eF od oh => by
    have z := h4 Hs H (n + 1) (holeAt j d) v _ (Same.refl _) (fun _ _ => rfl) oh
    rw [set_id h1] at z
    refine ⟨Hs, Fd ++ (A ++ (a :: (A' ++ [] ++ B')) ++ B), x.low, x.up, ⟨vi, σ, Fd, _, rfl, od, z, rfl⟩, ?_, ?_⟩
    · refine (List.Perm.nodup_iff ?_).mp nd
      rw [eF]
      simp only [List.append_nil, List.append_assoc, List.cons_append]
      refine List.Perm.trans ?_ (List.perm_append_comm_assoc A Fd _)
      refine List.Perm.append_left A ?_
      refine List.Perm.trans ?_ (List.perm_middle.symm)
      refine List.Perm.cons a ?_
      exact List.perm_append_comm_assoc A' Fd _
    · intro b m
      refine x.fresh b ?_
      rw [h3, eF]
      simp at m ⊢
      rcases m with m | m | m | m | m | m <;> simp [m]
  cases d with
  | lst ds =>
    obtain ⟨a, vs, F', e, ha, r, eF⟩ := h2
    cases ej : ds[j]? with
    | none => simp only [itemAt, ej] at q
    | some di =>
      simp only [itemAt, ej] at q
      obtain ⟨vi, Fd, A', B', hvi, od, eF', k1, k2⟩ := AllF.at r ej
      have oh : Own X.K Hs H (n + 1) (holeAt j (.lst ds)) v (a :: (A' ++ [] ++ B')) := by
        have z := k1 (Own X.K Hs H n) .hole vi [] (fun _ _ _ _ p => p) (own_hole n)
        rw [set_id hvi] at z
        exact ⟨a, vs, _, e, ha, z, rfl⟩
      exact .inl ⟨a, vs, j, vi, e, rfl, SqL.of ha, atI_nat hvi, q vi H (Same.refl _) (put (by rw [eF, eF']) od oh)⟩
  | tup ds =>
    obtain ⟨a, vs, F', e, ha, r, eF⟩ := h2
    cases ej : ds[j]? with
    | none => simp only [itemAt, ej] at q
    | some di =>
      simp only [itemAt, ej] at q
      obtain ⟨vi, Fd, A', B', hvi, od, eF', k1, k2⟩ := AllF.at r ej
      have oh : Own X.K Hs H (n + 1) (holeAt j (.tup ds)) v (a :: (A' ++ [] ++ B')) := by
        have z := k1 (Own X.K Hs H n) .hole vi [] (fun _ _ _ _ p => p) (own_hole n)
        rw [set_id hvi] at z
        exact ⟨a, vs, _, e, ha, z, rfl⟩
      exact .inr (.inl ⟨a, vs, j, vi, e, rfl, SqT.of ha, atI_nat hvi, q vi H (Same.refl _) (put (by rw [eF, eF']) od oh)⟩)
  | _ => exact q.elim
/-- an item of something new -/
theorem ev_ixO {n j jj : Nat} {p2 : Pos} {oa : Rs Sw.D} {ρ : List (Option Sw.D)} (ha : Ev X W (.O (n + 1)) e ρ oa) (hs : PlainIx (.Constant (.int (j : Nat)) jj p2) := by exact (fun _ _ => rfl)) :
    Ev X W (.O n) (.Subscript e (.Constant (.int (j : Nat)) jj p2) pos) ρ (oa.bind (itemAt j)) := fun σ H Q hr q => by
  refine wE.of (pe_ix ix_seq (wE.pe X e) pe_int hs) ?_
  show wE X e σ H _
  refine ha σ H _ hr ?_
  cases oa with
  | nx d =>
    rintro v H1 s1 ⟨F, o, nd, fr⟩
    have q : PostE X W (.O n) σ H Q (itemAt j d) := q
    show rIx X.K v (.int (j : Nat)) H1 Q
    cases d with
    | lst ds =>
      obtain ⟨a, vs, F', e, ha, r, eF⟩ := o
      cases ej : ds[j]? with
      | none => simp only [itemAt, ej] at q; exact q.elim
      | some di =>
        simp only [itemAt, ej] at q
        obtain ⟨vi, Fd, A', B', hvi, od, eF', k1, k2⟩ := AllF.at r ej
        refine .inl ⟨a, vs, j, vi, e, rfl, SqL.of ha, atI_nat hvi, (q : ∀ v H', _) vi H1 s1 ⟨Fd, od, ?_, fun b m => fr b ?_⟩⟩
        · rw [eF, eF'] at nd
          exact (List.nodup_append.mp (List.nodup_append.mp (List.nodup_cons.mp nd).2).1).2.1
        · rw [eF, eF']; simp [m]
    | tup ds =>
      obtain ⟨a, vs, F', e, ha, r, eF⟩ := o
      cases ej : ds[j]? with
      | none => simp only [itemAt, ej] at q; exact q.elim
      | some di =>
        simp only [itemAt, ej] at q
        obtain ⟨vi, Fd, A', B', hvi, od, eF', k1, k2⟩ := AllF.at r ej
        refine .inr (.inl ⟨a, vs, j, vi, e, rfl, SqT.of ha, atI_nat hvi, (q : ∀ v H', _) vi H1 s1 ⟨Fd, od, ?_, fun b m => fr b ?_⟩⟩)
        · rw [eF, eF'] at nd
          exact (List.nodup_append.mp (List.nodup_append.mp (List.nodup_cons.mp nd).2).1).2.1
        · rw [eF, eF']; simp [m]
    | _ => exact q.elim
  | exc n => exact q
  | err => exact q
end
end Sw

/- part SwSt2 -/
/-! Statements: stores, changes in place. -/
namespace Sw
open PySem PySem.Spec PyProof.Rows L2
/-- as EvM, where what stands in the slots may be changed by e -/
def EvP (X : Cx) (W : WX) (n : Nat) (e : Expr) (env env' : List Slot) (o : Rs D) : Prop :=
  ∀ (H0 : Hp) (σ : Sg) (H : Hp) (Q : VK), Fr X.K H0 H σ env →
    (match o with
      | .nx d => ∀ v H', Fr X.K H0 H' (some v :: σ) (.S n d :: env') → Q v H'
      | .exc m => ∀ C, X.mg m = some (.ref C) → ∀ H', Same H H' → W (.ref C) none σ H'
      | _ => False) → wE X e σ H Q
section
variable {X : Cx} {W : WX} {xv : List Slot} {k : Kd} {α β γ : Type} {env env' : List Slot} {mk : α → List Slot} {lk : β → List Slot} {e : Expr} {rest : List Stmt} {pos : Pos} {H0 H H' : Hp} {σ : Sg} {D : Ends}
theorem EvM.p {n : Nat} {o : Rs Sw.D} (h : EvM X W n e env env' o) : EvP X W n e env env' o := fun H0 σ H Q hF q => by
  refine h H0 σ H Q hF ?_
  cases o with
  | nx d => exact fun v H' sm f => q v H' f
  | exc m => exact q
  | err => exact q
/-- what is handed to EvP's end, from what follows -/
theorem EvP.first {n : Nat} {o : Rs Sw.D} {g : Sw.D → Out β α} {Q : VK} (h : EvP X W n e env env' o) (hF : Fr X.K H0 H σ env) (hx : XOk env xv) (q : PostS X W xv k H0 D mk lk (o.to g))
    (hn : ∀ d v H', Fr X.K H0 H' (some v :: σ) (.S n d :: env') → PostS X W xv k H0 D mk lk (g d) → Q v H') : wE X e σ H Q := by
  refine h H0 σ H Q hF ?_
  cases o with
  | nx d => exact fun v H' f => hn d v H' f q
  | exc m => exact fun C hC H' sm => q C hC σ H' (hF.same.trans sm) ((hF.grow sm).toXv hx)
  | err => exact q
theorem EvM.first {n : Nat} {o : Rs Sw.D} {g : Sw.D → Out β α} {Q : VK} (h : EvM X W n e env env' o) (hF : Fr X.K H0 H σ env) (hx : XOk env xv) (q : PostS X W xv k H0 D mk lk (o.to g))
    (hn : ∀ d v H', Same H H' → Fr X.K H0 H' (some v :: σ) (.S n d :: env') → PostS X W xv k H0 D mk lk (g d) → Q v H') : wE X e σ H Q := by
  refine h H0 σ H Q hF ?_
  cases o with
  | nx d => exact fun v H' sm f => hn d v H' sm f q
  | exc m => exact fun C hC H' sm => q C hC σ H' (hF.same.trans sm) ((hF.grow sm).toXv hx)
  | err => exact q
/-- a value that is only read, then what follows -/
theorem Ev.first {kd : Kd} {o : Rs Sw.D} {g : Sw.D → Out β α} {Q : VK} (h : Ev X W kd e (dat env) o) (hF : Fr X.K H0 H σ env) (hx : XOk env xv) (q : PostS X W xv k H0 D mk lk (o.to g))
    (hn : ∀ d v H', Same H H' → kd.sat X.K H H' d v → PostS X W xv k H0 D mk lk (g d) → Q v H') : wE X e σ H Q := by
  refine h σ H Q hF.rd ?_
  cases o with
  | nx d => exact fun v H' sm s => hn d v H' sm s q
  | exc m => exact fun C hC H' sm => q C hC σ H' (hF.same.trans sm) ((hF.grow sm).toXv hx)
  | err => exact q
theorem EvT.first {o : Rs Bool} {g : Bool → Out β α} {Q : Bool → Hp → Prop} (h : EvT X W e (dat env) o) (hF : Fr X.K H0 H σ env) (hx : XOk env xv) (q : PostS X W xv k H0 D mk lk (o.to g))
    (hn : ∀ b H', Same H H' → PostS X W xv k H0 D mk lk (g b) → Q b H') : wT X e σ H Q := by
  refine h σ H Q hF.rd ?_
  cases o with
  | nx d => exact fun H' sm => hn d H' sm q
  | exc m => exact fun C hC H' sm => q C hC σ H' (hF.same.trans sm) ((hF.grow sm).toXv hx)
  | err => exact q
theorem EvL.first {kd : Kd} {es : List Expr} {o : Rs (List Sw.D)} {g : List Sw.D → Out β α} {Q : List V → Hp → Prop} (h : EvL X W kd es (dat env) o) (hF : Fr X.K H0 H σ env) (hx : XOk env xv) (q : PostS X W xv k H0 D mk lk (o.to g))
    (hn : ∀ ds vs H', Same H H' → kd.satL X.K H H' ds vs → PostS X W xv k H0 D mk lk (g ds) → Q vs H') : wA X es σ H Q := by
  refine h σ H Q hF.rd ?_
  cases o with
  | nx d => exact fun v H' sm s => hn d v H' sm s q
  | exc m => exact fun C hC H' sm => q C hC σ H' (hF.same.trans sm) ((hF.grow sm).toXv hx)
  | err => exact q
/-- the value at hand is stored -/
theorem Fr.store {i n : Nat} {d : Sw.D} {v : V} (h : Fr X.K H0 H (some v :: σ) (.S n d :: env)) (hi : i < env.length) : Fr X.K H0 H (σ.set i (some v)) (env.set i (.S n d)) := by
  obtain ⟨Hs, F, x⟩ := h
  obtain ⟨v', σ', F1, F2, e, p, r, eF⟩ := x.cls
  cases e
  have nd := x.nd
  rw [eF] at nd
  obtain ⟨n1, n2, n3⟩ := List.nodup_append.mp nd
  obtain ⟨F', y⟩ := FrX.store (F := F2) ⟨x.low, x.up, r, n2, fun a m => x.fresh a (by rw [eF]; exact List.mem_append_right _ m)⟩ hi p n1 (fun a m => x.fresh a (by rw [eF]; exact List.mem_append_left _ m)) (fun a m z => n3 a m a z rfl)
  exact ⟨Hs, F', y⟩
theorem ex_nil {a : α} (w : Wk env (mk a)) : Ex X W xv k [] env (.nx a : Out β α) mk lk := fun H0 σ H D hF q => by
  exact wSs.of pss_nil ((q : ∀ σ' H', Fr X.K H0 H' σ' (mk a) → D.nx σ' H') σ H (hF.wk w))
/-- some slots are forgotten -/
theorem ex_wk {sts : List Stmt} {o : Out β α} (w : Wk env env') (h : Ex X W xv k sts env' o mk lk) : Ex X W xv k sts env o mk lk := fun H0 σ H D hF q => h H0 σ H D (hF.wk w) q
/-- what a slot owns becomes shared -/
theorem ex_frz {sts : List Stmt} {o : Out β α} {n : Nat} {d : Sw.D} (i : Nat) (h : Ex X W xv k sts (env.set i (.S 0 d)) o mk lk) (hi : env[i]? = some (.S n d) := by rfl) : Ex X W xv k sts env o mk lk := fun H0 σ H D hF q => h H0 σ H D (hF.freeze hi) q
/-- x = e -/
theorem ex_set {n : Nat} {x : Str} {p : Pos} {oe : Rs Sw.D} {g : Sw.D → Out β α} (i : Nat) (he : EvP X W n e env env' oe) (hr : ∀ d, Ex X W xv k rest (env'.set i (.S n d)) (g d) mk lk)
    (hp : ∀ te, PE X e te → PS X (.Assign [.Name x p] e pos) (tAsg te (gName i))) (hi : Nat.blt i env'.length = true := by rfl) (hx : XOk env xv := by first | exact Or.inl rfl | exact Or.inr (by repeat (first | exact Wk.nil | refine Wk.keep ?_ | refine Wk.drop ?_))) :
    Ex X W xv k (.Assign [.Name x p] e pos :: rest) env (oe.to g) mk lk := fun H0 σ H D hF q => by
  refine wSs.cons (hp _ (wE.pe X e)) ?_
  show wE X e σ H _
  exact he.first hF hx q fun d v H' f p => hr d H0 _ H' D (f.store (Nat.le_of_ble_eq_true hi)) p
/-- x = [..] on one line, x a local -/
theorem ex_setC {n : Nat} {x : Str} {p : Pos} {oe : Rs Sw.D} {g : Sw.D → Out β α} (i : Nat) (he : EvC X W (.O n) e (dat env) oe) (hr : ∀ d, Ex X W xv k rest (env.set i (.S n d)) (g d) mk lk)
    (hN : X.N[i]? = some x) (hl : X.env.scope.names.lookup x = some .local) (hsw : swapsWith e (some (.Name x p)) pos.line X.env = pure true) (hi : Nat.blt i env.length = true := by rfl) (hx : XOk env xv := by first | exact Or.inl rfl | exact Or.inr (by repeat (first | exact Wk.nil | refine Wk.keep ?_ | refine Wk.drop ?_))) :
    Ex X W xv k (.Assign [.Name x p] e pos :: rest) env (oe.to g) mk lk := fun H0 σ H D hF q => by
  obtain ⟨t, pe, st, f⟩ := he
  refine wSs.cons (st i x p pos hN hl hsw) ?_
  show t σ H _
  refine f σ H _ hF.rd ?_
  cases oe with
  | nx d => exact fun v H' sm s => hr d H0 _ H' D ((hF.push sm s).store (Nat.le_of_ble_eq_true hi)) q
  | exc m => exact fun C hC H' sm => q C hC σ H' (hF.same.trans sm) ((hF.grow sm).toXv hx)
  | err => exact q
/-- .. of things that are shared -/
theorem ex_expr {kd : Kd} {oe : Rs Sw.D} {g : Sw.D → Out β α} (he : Ev X W kd e (dat env) oe) (hr : ∀ d, Ex X W xv k rest env (g d) mk lk) (hs : swapsWith e none pos.line X.env = pure false := by rfl) (hx : XOk env xv := by first | exact Or.inl rfl | exact Or.inr (by repeat (first | exact Wk.nil | refine Wk.keep ?_ | refine Wk.drop ?_))) :
    Ex X W xv k (.Expr e pos :: rest) env (oe.to g) mk lk := fun H0 σ H D hF q => by
  refine wSs.cons (ps_expr (wE.pe X e) hs) ?_
  show wE X e σ H _
  exact he.first hF hx q fun d v H' sm s p => hr d H0 _ H' D (hF.grow sm) p
theorem ex_exprP {n : Nat} {oe : Rs Sw.D} {g : Sw.D → Out β α} (he : EvP X W n e env env' oe) (hr : ∀ d, Ex X W xv k rest env' (g d) mk lk) (hs : swapsWith e none pos.line X.env = pure false := by rfl) (hx : XOk env xv := by first | exact Or.inl rfl | exact Or.inr (by repeat (first | exact Wk.nil | refine Wk.keep ?_ | refine Wk.drop ?_))) :
    Ex X W xv k (.Expr e pos :: rest) env (oe.to g) mk lk := fun H0 σ H D hF q => by
  refine wSs.cons (ps_expr (wE.pe X e) hs) ?_
  show wE X e σ H _
  exact he.first hF hx q fun d v H' f p => hr d H0 _ H' D f.pop0 p
theorem ex_ret {oe : Rs Sw.D} (he : Ev X W k e (dat env) oe) (hx : XOk env xv := by first | exact Or.inl rfl | exact Or.inr (by repeat (first | exact Wk.nil | refine Wk.keep ?_ | refine Wk.drop ?_))) : Ex X W xv k (.Return (some e) pos :: rest) env (oe.to .rt : Out β α) mk lk := fun H0 σ H D hF q => by
  refine wSs.cons (ps_ret (wE.pe X e)) ?_
  show wE X e σ H _
  exact he.first hF hx q fun d v H' sm s p => (p : ∀ v H', _) v H' (hF.same.trans sm) (s.back hF.same)
/-- d is owned as far as n levels go -/
def full : Nat → Sw.D → Bool
  | 0, d => d.atom
  | n + 1, .lst ds => ds.all (full n)
  | n + 1, .tup ds => ds.all (full n)
  | n + 1, d => d.atom
theorem AllF.impAll {P P' : Sw.D → V → List Addr → Prop} {c : Sw.D → Bool} (h : ∀ d v F, c d = true → P d v F → P' d v F) : ∀ {ds : List Sw.D} {vs : List V} {F : List Addr}, ds.all c = true → AllF P ds vs F → AllF P' ds vs F
  | [], _, _, _, x => x
  | d :: ds, _, _, hc, ⟨v, vs', F1, F2, e, p, r, eF⟩ => by
    simp only [List.all_cons, Bool.and_eq_true] at hc
    exact ⟨v, vs', F1, F2, e, h _ _ _ hc.1 p, AllF.impAll h hc.2 r, eF⟩
theorem own_full {K : PySem.W.Frag} {Hs H : Hp} : ∀ {n : Nat} {d : Sw.D} {v : V} {F : List Addr}, full n d = true → Own K Hs H n d v F → Own K emp H n d v F
  | 0, d, v, F, c, ⟨r, e⟩ => ⟨rep_atom c r, e⟩
  | n + 1, .lst ds, v, F, c, ⟨a, vs, F', e, ha, r, eF⟩ => ⟨a, vs, F', e, ha, AllF.impAll (P := Own K Hs H n) (P' := Own K emp H n) (c := full n) (fun d v F c p => own_full c p) c r, eF⟩
  | n + 1, .tup ds, v, F, c, ⟨a, vs, F', e, ha, r, eF⟩ => ⟨a, vs, F', e, ha, AllF.impAll (P := Own K Hs H n) (P' := Own K emp H n) (c := full n) (fun d v F c p => own_full c p) c r, eF⟩
  | n + 1, .non, v, F, c, x => x
  | n + 1, .bl b, v, F, c, x => x
  | n + 1, .int i, v, F, c, x => x
  | n + 1, .str s, v, F, c, x => x
  | n + 1, .scr ns, v, F, c, x => by simp [full, D.atom] at c
  | n + 1, .hole, v, F, c, x => by simp [full, D.atom] at c
  | n + 1, .ex _, v, F, c, x => by simp [full, D.atom] at c
  | n + 1, .pin _ _, v, F, c, x => by simp [full, D.atom] at c
def full? (n : Nat) (d : Sw.D) : Rs Sw.D := if full n d = true then .nx d else .err
theorem Fr.top {n : Nat} {d : Sw.D} {v : V} (h : Fr X.K H0 H (some v :: σ) (.S n d :: env)) (c : full n d = true) : (Kd.O n).sat X.K H0 H d v := by
  obtain ⟨Hs, F, x⟩ := h
  obtain ⟨v', σ', F1, F2, e, p, r, eF⟩ := x.cls
  cases e
  exact ⟨F1, own_full c p, (List.nodup_append.mp (eF ▸ x.nd)).1, fun a m => x.low.free (x.fresh a (by rw [eF]; exact List.mem_append_left _ m))⟩
/-- return e, e's value owned by the def -/
theorem ex_retP {n : Nat} {oe : Rs Sw.D} (he : EvP X W n e env env' oe) (hx : XOk env xv := by first | exact Or.inl rfl | exact Or.inr (by repeat (first | exact Wk.nil | refine Wk.keep ?_ | refine Wk.drop ?_))) : Ex X W xv (.O n) (.Return (some e) pos :: rest) env ((oe.bind (full? n)).to .rt : Out β α) mk lk := fun H0 σ H D hF q => by
  refine wSs.cons (ps_ret (wE.pe X e)) ?_
  show wE X e σ H _
  refine he H0 σ H _ hF ?_
  cases oe with
  | nx d =>
    intro v H' f
    have q : PostS X W xv (.O n) H0 D mk lk ((full? n d).to .rt : Out β α) := q
    unfold full? at q
    by_cases c : full n d = true
    · rw [if_pos c] at q
      exact (q : ∀ v H', _) v H' f.same (f.top c)
    · rw [if_neg c] at q
      exact q.elim
  | exc m => exact fun C hC H' sm => q C hC σ H' (hF.same.trans sm) ((hF.grow sm).toXv hx)
  | err => exact q
theorem ex_retN : Ex X W xv k (.Return none pos :: rest) env (.rt .non : Out β α) mk lk := fun H0 σ H D hF q =>
  wSs.cons ps_retN ((q : ∀ v H', _) .non H hF.same (Kd.atom rfl (H2 := H) (by unfold Rep; rfl) k))
theorem ex_pass {o : Out β α} (h : Ex X W xv k rest env o mk lk) : Ex X W xv k (.Pass pos :: rest) env o mk lk := fun H0 σ H D hF q => wSs.cons ps_pass (h H0 σ H D hF q)
theorem ex_brk {b : β} (w : Wk env (lk b)) : Ex X W xv k (.Break pos :: rest) env (.bk b : Out β α) mk lk := fun H0 σ H D hF q => wSs.cons ps_break ((q : ∀ σ' H', _) σ H (hF.wk w))
/-! ### tuples of what is owned -/
theorem Fr.lift0 {n : Nat} {d : Sw.D} {v : V} (h : Fr X.K H0 H (some v :: σ) (.S n d :: env)) : ∃ Hs F G, Same H0 Hs ∧ Same Hs H ∧ Own X.K Hs H n d v G ∧ Cls X.K Hs H σ env F ∧ (G ++ F).Nodup ∧ ∀ a ∈ G ++ F, Hs a = none := by
  obtain ⟨Hs, F, x⟩ := h
  obtain ⟨v', σ', F1, F2, e, p, r, eF⟩ := x.cls
  cases e
  exact ⟨Hs, F2, F1, x.low, x.up, p, r, eF ▸ x.nd, eF ▸ x.fresh⟩
/-- (e1, e2), e2 flat -/
theorem evP_tupA {n x1 : Nat} {e1 e2 : Expr} {o1 o2 : Rs Sw.D} (h1 : EvM X W n e1 env env' o1) (h2 : Ev X W .R e2 (dat env') o2)
    (hs1 : starEach (e1 :: [e2]) X.env = (false, eval e1 X.env) :: starEach [e2] X.env := by rfl) (hs2 : starEach (e2 :: []) X.env = (false, eval e2 X.env) :: starEach [] X.env := by rfl) :
    EvP X W (n + 1) (.Tuple [e1, e2] x1 pos) env env' (o1.bind fun x => o2.bind fun y => (at? y).bind fun y => .nx (.tup [x, y])) := fun H0 σ H Q hF q => by
  refine wE.of (pe_tup (pa_cons (wE.pe X e1) (pa_cons (wE.pe X e2) pa_nil hs2) hs1)) ?_
  show wE X e1 σ H _
  refine h1 H0 σ H _ hF ?_
  cases o1 with
  | nx x =>
    intro v H1 s1 f1
    refine h2 σ H1 _ f1.pop0.rd ?_
    cases o2 with
    | nx y =>
      intro w H2 s2 ry
      have ry : Rep X.K H2 y w := ry
      by_cases c : y.atom = true
      · have e : (at? y).bind (fun y => Rs.nx (Sw.D.tup [x, y])) = .nx (.tup [x, y]) := by unfold at?; rw [if_pos c]; rfl
        have q : match ((at? y).bind (fun y => Rs.nx (Sw.D.tup [x, y])) : Rs Sw.D) with
          | .nx d => ∀ v H', Fr X.K H0 H' (some v :: σ) (.S (n + 1) d :: env') → Q v H'
          | .exc m => ∀ C, X.mg m = some (.ref C) → ∀ H', Same H H' → W (.ref C) none σ H'
          | _ => False := q
        rw [e] at q
        refine ⟨by show 2 ≤ sizeLine; rw [sizeLine_eq]; decide, fun p hp => ?_⟩
        refine (q : ∀ v H', _) _ _ ?_
        obtain ⟨Hs, F, G, low, up, o, cl, nd, fr⟩ := (f1.grow s2).lift0
        have hp' : ∀ a ∈ G ++ F, a ≠ p := fun a m z => by
          subst z
          rcases List.mem_append.mp m with m | m
          · exact Own.there o _ m hp
          · exact Cls.there cl _ m hp
        refine ⟨Hs, (p :: (G ++ [])) ++ F, low, up.trans (same_new hp), ⟨.ref p, σ, p :: (G ++ []), F, rfl, ⟨p, [v, w], G ++ [], rfl, upd_same, ?_, rfl⟩, Cls.congr (Same.refl _) (fun a m => upd_ne (hp' a (List.mem_append_right _ m))) cl, rfl⟩, ?_, ?_⟩
        · exact ⟨v, [w], G, [], rfl, Own.congr (Same.refl _) (fun a m => upd_ne (hp' a (List.mem_append_left _ m))) o, ⟨w, [], [], [], rfl, own_atom c ry n, ⟨rfl, rfl⟩, rfl⟩, rfl⟩
        · rw [List.append_nil]
          exact List.nodup_cons.mpr ⟨fun m => hp' p m rfl, nd⟩
        · intro a m
          rw [List.append_nil] at m
          rcases List.mem_cons.mp m with m | m
          · rw [m]; exact up.free hp
          · exact fr a m
      · have e : (at? y).bind (fun y => Rs.nx (Sw.D.tup [x, y])) = .err := by unfold at?; rw [if_neg c]; rfl
        have q : match ((at? y).bind (fun y => Rs.nx (Sw.D.tup [x, y])) : Rs Sw.D) with
          | .nx d => ∀ v H', Fr X.K H0 H' (some v :: σ) (.S (n + 1) d :: env') → Q v H'
          | .exc m => ∀ C, X.mg m = some (.ref C) → ∀ H', Same H H' → W (.ref C) none σ H'
          | _ => False := q
        rw [e] at q
        exact q.elim
    | exc m => exact fun C hC H' sm => q C hC H' (s1.trans sm)
    | err => exact q
  | exc m => exact q
  | err => exact q
theorem Fr.take {i n : Nat} {d : Sw.D} (h : Fr X.K H0 H σ env) (hi : env[i]? = some (.S n d)) : ∃ v, σ[i]? = some (some v) ∧ Fr X.K H0 H (some v :: σ) (.S n d :: env.set i .J) := by
  obtain ⟨Hs, F, x⟩ := h
  obtain ⟨v, Fi, A, B, h1, h2, h3, h4, h5⟩ := Cls.at x.cls hi
  refine ⟨v, h1, Hs, Fi ++ (A ++ B), x.low, x.up, ⟨v, σ, Fi, A ++ B, rfl, h2, ?_, rfl⟩, ?_, ?_⟩
  · have z := h5 Hs H (some v) (Same.refl _) (fun _ _ => rfl)
    rw [set_id h1] at z
    exact z
  · have nd := x.nd
    rw [h3] at nd
    refine (List.Perm.nodup_iff ?_).mp nd
    rw [← List.append_assoc]
    exact List.Perm.append_right B List.perm_append_comm
  · intro a m
    refine x.fresh a ?_
    rw [h3]
    simp at m ⊢
    rcases m with m | m | m <;> simp [m]
/-- (e1, y), y a slot's own -/
theorem evP_tupV {n x1 : Nat} {e1 : Expr} {y : Str} {p2 : Pos} {o1 : Rs Sw.D} {d2 : Sw.D} (j : Nat) (h1 : EvM X W n e1 env env' o1) (hj : env'[j]? = some (.S n d2) := by rfl) (hN : X.N[j]? = some y := by rfl)
    (hv : Vis X.env.scope y := by first | exact Or.inl rfl | exact Or.inr (Or.inl rfl) | exact Or.inr (Or.inr rfl)) (hd : (y == ("__debug__" : Str)) = false := by decide)
    (hcd : (y == ("__classdict__" : Str)) = false := by decide)
    (hs1 : starEach (e1 :: [.Name y p2]) X.env = (false, eval e1 X.env) :: starEach [.Name y p2] X.env := by rfl) (hs2 : starEach (.Name y p2 :: []) X.env = (false, eval (.Name y p2) X.env) :: starEach [] X.env := by rfl) :
    EvP X W (n + 1) (.Tuple [e1, .Name y p2] x1 pos) env (env'.set j .J) (o1.bind fun x => .nx (.tup [x, d2])) := fun H0 σ H Q hF q => by
  refine wE.of (pe_tup (pa_cons (wE.pe X e1) (pa_cons (pe_var hN hv hd hcd) pa_nil hs2) hs1)) ?_
  show wE X e1 σ H _
  refine h1 H0 σ H _ hF ?_
  cases o1 with
  | nx x =>
    intro v H1 s1 f1
    obtain ⟨w, hw, f2⟩ := f1.take (i := j + 1) (n := n) (d := d2) (by simpa using hj)
    refine ⟨w, by simpa using hw, by show 2 ≤ sizeLine; rw [sizeLine_eq]; decide, fun p hp => ?_⟩
    refine (q : ∀ v H', _) _ _ ?_
    obtain ⟨Hs, F, G, low, up, o, cl, nd, fr⟩ := f2.lift0
    have cl' : Cls X.K Hs H1 (some v :: σ) (.S n x :: env'.set j .J) F := by simpa using cl
    obtain ⟨v', σ', F1, F2, e, p1, r, eF⟩ := cl'
    cases e
    subst eF
    have hp' : ∀ a ∈ G ++ (F1 ++ F2), a ≠ p := fun a m z => by
      subst z
      rcases List.mem_append.mp m with m | m
      · exact Own.there o _ m hp
      · rcases List.mem_append.mp m with m | m
        · exact Own.there p1 _ m hp
        · exact Cls.there r _ m hp
    refine ⟨Hs, (p :: (F1 ++ (G ++ []))) ++ F2, low, up.trans (same_new hp), ⟨.ref p, σ, p :: (F1 ++ (G ++ [])), F2, rfl, ⟨p, [v, w], F1 ++ (G ++ []), rfl, upd_same, ?_, rfl⟩, Cls.congr (Same.refl _) (fun a m => upd_ne (hp' a (by simp [m]))) r, rfl⟩, ?_, ?_⟩
    · exact ⟨v, [w], F1, G ++ [], rfl, Own.congr (Same.refl _) (fun a m => upd_ne (hp' a (by simp [m]))) p1, ⟨w, [], G, [], rfl, Own.congr (Same.refl _) (fun a m => upd_ne (hp' a (by simp [m]))) o, ⟨rfl, rfl⟩, rfl⟩, rfl⟩
    · have pm : (G ++ (F1 ++ F2)).Perm (F1 ++ (G ++ F2)) := List.perm_append_comm_assoc G F1 F2
      have nd' := pm.nodup_iff.mp nd
      refine List.nodup_cons.mpr ⟨fun m => hp' p (pm.mem_iff.mpr (by simpa using m)) rfl, by simpa using nd'⟩
    · intro a m
      rcases List.mem_cons.mp m with m | m
      · rw [m]; exact up.free hp
      · exact fr a (by simp at m ⊢; rcases m with m | m | m <;> simp [m])
  | exc m => exact q
  | err => exact q
/-- x + e2, x a slot's own list, e2 a new one: what both hold goes into a new list -/
def catM (d : Sw.D) (e : Sw.D) : Rs Sw.D := match d, e with
  | .lst ds, .lst es => if ds.length + es.length ≤ sizeLine then .nx (.lst (ds ++ es)) else .err
  | _, _ => .err
theorem evM_cat {n : Nat} {d : Sw.D} {x : Str} {p1 : Pos} {e2 : Expr} {o2 : Rs Sw.D} (i : Nat) (h2 : Ev X W (.O (n + 1)) e2 (dat env) o2) (hi : env[i]? = some (.S (n + 1) d) := by rfl) (hN : X.N[i]? = some x := by rfl)
    (hv : Vis X.env.scope x := by first | exact Or.inl rfl | exact Or.inr (Or.inl rfl) | exact Or.inr (Or.inr rfl)) (hd : (x == ("__debug__" : Str)) = false := by decide)
    (hcd : (x == ("__classdict__" : Str)) = false := by decide) : EvM X W (n + 1) (.BinOp (.Name x p1) .Add e2 pos) env (env.set i .J) (o2.bind fun y => catM d y) := fun H0 σ H Q hF q => by
  obtain ⟨v, hv0, f⟩ := hF.take hi
  obtain ⟨Hs, F, G, low, up, o, cl, nd, fr⟩ := f.lift0
  refine wE.of (pe_op op_cat (pe_var hN hv hd hcd) (wE.pe X e2)) ⟨v, hv0, ?_⟩
  show wE X e2 σ H _
  refine h2 σ H _ hF.rd ?_
  cases o2 with
  | nx y =>
    rintro w H1 s1 ⟨Fy, oy, ndy, fry⟩
    have q : match (catM d y : Rs Sw.D) with
      | .nx d => ∀ v H', Same H H' → Fr X.K H0 H' (some v :: σ) (.S (n + 1) d :: env.set i .J) → Q v H'
      | .exc m => ∀ C, X.mg m = some (.ref C) → ∀ H', Same H H' → W (.ref C) none σ H'
      | _ => False := q
    have thG : ∀ z ∈ G, H z ≠ none := Own.there o
    have thF : ∀ z ∈ F, H z ≠ none := Cls.there cl
    have keep : ∀ z, H z ≠ none → H1 z = H z := fun z hz => by
      cases e : H z with
      | none => exact absurd e hz
      | some x => exact s1 z x e
    have o1 : Own X.K Hs H1 (n + 1) d v G := Own.congr (Same.refl _) (fun z m => keep z (thG z m)) o
    have cl1 := Cls.congr (H' := H1) (Same.refl Hs) (fun z m => keep z (thF z m)) cl
    clear h2
    cases d with
    | lst ds =>
      cases y with
      | lst es =>
        obtain ⟨a, vs, G', e1, ha, r1, eG⟩ := o1
        obtain ⟨b, us, Fy', e2', hb, r2, eFy⟩ := oy
        unfold catM at q
        by_cases c : ds.length + es.length ≤ sizeLine
        · simp only [if_pos c] at q
          refine ⟨a, b, vs, us, e1, e2', ha, hb, by rw [r1.len, r2.len]; exact c, fun p hp => ?_⟩
          refine q _ _ (s1.trans (same_new hp)) ?_
          have ne : ∀ z, H1 z ≠ none → z ≠ p := fun z hz e => hz (e ▸ hp)
          have t1 : ∀ z ∈ G', H1 z ≠ none := r1.there
          have t2 : ∀ z ∈ Fy', H1 z ≠ none := r2.there
          have t3 : ∀ z ∈ F, H1 z ≠ none := Cls.there cl1
          have r : AllF (Own X.K Hs (upd H1 p (.lst (vs ++ us))) n) (ds ++ es) (vs ++ us) (G' ++ Fy') :=
            AllF.append (AllF.impIn (fun d v T m p => Own.congr (Same.refl _) (fun z hz => upd_ne (ne z (t1 z (m z hz)))) p) r1)
              (AllF.impIn (fun d v T m p => Own.congr (same_emp _) (fun z hz => upd_ne (ne z (t2 z (m z hz)))) p) r2)
          refine ⟨Hs, (p :: (G' ++ Fy')) ++ F, low, (up.trans s1).trans (same_new hp), ⟨_, σ, p :: (G' ++ Fy'), F, rfl, ⟨p, _, _, rfl, upd_same, r, rfl⟩, Cls.congr (Same.refl _) (fun z m => upd_ne (ne z (t3 z m))) cl1, rfl⟩, ?_, ?_⟩
          · rw [eG] at nd
            rw [eFy] at ndy fry
            obtain ⟨n1, n2⟩ := List.nodup_cons.mp nd
            obtain ⟨n3, n4, n5⟩ := List.nodup_append.mp n2
            obtain ⟨m1, m2⟩ := List.nodup_cons.mp ndy
            have dj : ∀ z ∈ Fy', ∀ t, H t ≠ none → z ≠ t := fun z hz t ht e => ht (e ▸ fry z (List.mem_cons_of_mem _ hz))
            refine List.nodup_cons.mpr ⟨fun m => ?_, ?_⟩
            · simp at m
              rcases m with m | m | m
              · exact ne p (t1 p m) rfl
              · exact ne p (t2 p m) rfl
              · exact ne p (t3 p m) rfl
            · show ((G' ++ Fy') ++ F).Nodup
              rw [List.append_assoc]
              refine List.nodup_append.mpr ⟨n3, List.nodup_append.mpr ⟨m2, n4, fun z hz t ht => dj z hz t (thF t ht)⟩, fun z hz t ht e => ?_⟩
              rcases List.mem_append.mp ht with ht | ht
              · exact dj t ht z (thG z (by rw [eG]; exact List.mem_cons_of_mem _ hz)) e.symm
              · exact n5 z hz t ht e
          · intro z m
            simp at m
            rcases m with m | m | m | m
            · rw [m]; exact (up.trans s1).free hp
            · exact fr z (by rw [eG]; simp [m])
            · exact up.free (fry z (by rw [eFy]; simp [m]))
            · exact fr z (by simp [m])
        · simp only [if_neg c] at q
      | _ => exact q.elim
    | _ => exact q.elim
  | exc m => exact q
  | err => exact q
end
end Sw

/- part SwSt3 -/
/-! Changes in place, ifs, loops. -/
namespace Sw
open PySem PySem.Spec PyProof.Rows L2
/-- the value that stands in slot i, or in its j-th item -/
def PathV (H : Hp) (σ : Sg) (i : Nat) : Option Nat → V → Prop
  | none, v => σ[i]? = some (some v)
  | some j, v => ∃ a vs, σ[i]? = some (some (.ref a)) ∧ (H a = some (.lst vs) ∨ H a = some (.tup vs)) ∧ vs[j]? = some v
theorem PathV.mono {H H' : Hp} {σ : Sg} {i : Nat} {v : V} (sm : Same H H') : ∀ {j : Option Nat}, PathV H σ i j v → PathV H' σ i j v
  | none, h => h
  | some j, ⟨a, vs, h1, h2, h3⟩ => ⟨a, vs, h1, h2.imp (sm _ _) (sm _ _), h3⟩
def lev : Option Nat → Nat → Nat
  | none, n => n + 1
  | some _, n => n + 2
def plGet : Option Nat → D → Option (List D)
  | none, .lst ds => some ds
  | some j, .lst xs => match xs[j]? with
    | some (.lst ds) => some ds
    | _ => none
  | some j, .tup xs => match xs[j]? with
    | some (.lst ds) => some ds
    | _ => none
  | none, .pin _ ds => some ds
  | some j, .pin _ xs => match xs[j]? with
    | some (.lst ds) => some ds
    | _ => none
  | _, _ => none
def plPut : Option Nat → D → List D → D
  | some j, .pin a xs, es => .pin a (xs.set j (.lst es))
  | none, .pin a _, es => .pin a es
  | none, _, es => .lst es
  | some j, .lst xs, es => .lst (xs.set j (.lst es))
  | some j, .tup xs, es => .tup (xs.set j (.lst es))
  | _, d, _ => d
/-- a list in a slot, seen alone: what it holds may be changed -/
def LensAt (K : PySem.W.Frag) (Hs H : Hp) (σ : Sg) (v : V) (n : Nat) (ds : List D) (put : List D → List Slot) (F : List Addr) : Prop :=
  ∃ b vs A F' B, v = .ref b ∧ H b = some (.lst vs) ∧ AllF (Own K Hs H n) ds vs F' ∧ F = A ++ (b :: F') ++ B ∧
    ∀ (H2 : Hp) (es : List D) (us : List V) (G : List Addr), (∀ x ∈ A ++ B, H2 x = H x) → H2 b = some (.lst us) → AllF (Own K Hs H2 n) es us G → Cls K Hs H2 σ (put es) (A ++ (b :: G) ++ B)
theorem lens {K : PySem.W.Frag} {Hs H : Hp} {σ : Sg} {env : List Slot} {F : List Addr} {i n N : Nat} {j : Option Nat} {d : D} {ds : List D} {v : V} (h : Cls K Hs H σ env F) (hi : env[i]? = some (.S N d)) (hN : N = lev j n) (pv : PathV H σ i j v)
    (hd : plGet j d = some ds) : LensAt K Hs H σ v n ds (fun es => env.set i (.S N (plPut j d es))) F := by
  obtain ⟨v0, Fi, A, B, h1, h2, h3, h4, h5⟩ := Cls.at h hi
  subst hN
  cases j with
  | none =>
    have pv : σ[i]? = some (some v) := pv
    rw [h1] at pv
    cases pv
    cases d <;> simp [plGet] at hd
    · subst hd
      obtain ⟨a, vs, F', e, ha, r, eF⟩ := h2
      refine ⟨a, vs, A, F', B, e, ha, r, by rw [h3, eF], fun H2 es us G hx hb o => ?_⟩
      have z := h4 Hs H2 (n + 1) (.lst es) v (a :: G) (Same.refl _) hx ⟨a, us, G, e, hb, o, rfl⟩
      rw [set_id h1] at z
      exact z
    · subst hd
      rename_i a _
      obtain ⟨vs, F', e, ha, r, eF⟩ := h2
      refine ⟨a, vs, A, F', B, e, ha, r, by rw [h3, eF], fun H2 es us G hx hb o => ?_⟩
      have z := h4 Hs H2 (n + 1) (.pin a es) v (a :: G) (Same.refl _) hx ⟨us, G, e, hb, o, rfl⟩
      rw [set_id h1] at z
      exact z
  | some j =>
    obtain ⟨a, vs, p1, p2, p3⟩ := pv
    rw [h1] at p1
    cases p1
    cases d <;> simp [plGet] at hd
    · rename_i xs
      cases ex : xs[j]? with
      | none => rw [ex] at hd; cases hd
      | some y =>
        rw [ex] at hd
        cases y <;> simp at hd
        subst hd
        rename_i ds
        obtain ⟨a', vs', F', e, ha, r, eF⟩ := h2
        cases e
        have ev : vs = vs' := by
          rcases p2 with p2 | p2 <;> (rw [ha] at p2; cases p2) <;> rfl
        subst ev
        obtain ⟨w, Fd, A', B', hw, od, eF', k1, k2⟩ := AllF.at r ex
        rw [p3] at hw
        cases hw
        obtain ⟨b, us0, F'', e2, hb0, r2, eF2⟩ := od
        refine ⟨b, us0, A ++ (a :: A'), F'', B' ++ B, e2, hb0, r2, by rw [h3, eF, eF', eF2]; simp [List.append_assoc], fun H2 es us G hx hb o => ?_⟩
        have z := h4 Hs H2 (n + 2) (.lst (xs.set j (.lst es))) (.ref a) (a :: (A' ++ (b :: G) ++ B')) (Same.refl _) (fun x m => hx x (by simp at m ⊢; rcases m with m | m <;> simp [m])) ⟨a, vs, A' ++ (b :: G) ++ B', rfl, by rw [hx a (by simp)]; exact ha, by
          have z := k1 (Own K Hs H2 (n + 1)) (.lst es) v (b :: G) (fun x w T m p => Own.congr (Same.refl _) (fun t ht => hx t (by have := m t ht; simp at this ⊢; rcases this with m | m <;> simp [m])) p) ⟨b, us, G, e2, hb, o, rfl⟩
          rw [set_id p3] at z
          exact z, rfl⟩
        rw [set_id h1] at z
        have ee : A ++ (a :: A') ++ (b :: G) ++ (B' ++ B) = A ++ (a :: (A' ++ (b :: G) ++ B')) ++ B := by simp [List.append_assoc]
        rw [ee]
        exact z
    · rename_i xs
      cases ex : xs[j]? with
      | none => rw [ex] at hd; cases hd
      | some y =>
        rw [ex] at hd
        cases y <;> simp at hd
        subst hd
        rename_i ds
        obtain ⟨a', vs', F', e, ha, r, eF⟩ := h2
        cases e
        have ev : vs = vs' := by
          rcases p2 with p2 | p2 <;> (rw [ha] at p2; cases p2) <;> rfl
        subst ev
        obtain ⟨w, Fd, A', B', hw, od, eF', k1, k2⟩ := AllF.at r ex
        rw [p3] at hw
        cases hw
        obtain ⟨b, us0, F'', e2, hb0, r2, eF2⟩ := od
        refine ⟨b, us0, A ++ (a :: A'), F'', B' ++ B, e2, hb0, r2, by rw [h3, eF, eF', eF2]; simp [List.append_assoc], fun H2 es us G hx hb o => ?_⟩
        have z := h4 Hs H2 (n + 2) (.tup (xs.set j (.lst es))) (.ref a) (a :: (A' ++ (b :: G) ++ B')) (Same.refl _) (fun x m => hx x (by simp at m ⊢; rcases m with m | m <;> simp [m])) ⟨a, vs, A' ++ (b :: G) ++ B', rfl, by rw [hx a (by simp)]; exact ha, by
          have z := k1 (Own K Hs H2 (n + 1)) (.lst es) v (b :: G) (fun x w T m p => Own.congr (Same.refl _) (fun t ht => hx t (by have := m t ht; simp at this ⊢; rcases this with m | m <;> simp [m])) p) ⟨b, us, G, e2, hb, o, rfl⟩
          rw [set_id p3] at z
          exact z, rfl⟩
        rw [set_id h1] at z
        have ee : A ++ (a :: A') ++ (b :: G) ++ (B' ++ B) = A ++ (a :: (A' ++ (b :: G) ++ B')) ++ B := by simp [List.append_assoc]
        rw [ee]
        exact z
    · rename_i a1 xs
      cases ex : xs[j]? with
      | none => rw [ex] at hd; cases hd
      | some y =>
        rw [ex] at hd
        cases y <;> simp at hd
        subst hd
        rename_i ds
        obtain ⟨vs', F', e, ha, r, eF⟩ := h2
        cases e
        have ev : vs = vs' := by
          rcases p2 with p2 | p2 <;> (rw [ha] at p2; cases p2) <;> rfl
        subst ev
        obtain ⟨w, Fd, A', B', hw, od, eF', k1, k2⟩ := AllF.at r ex
        rw [p3] at hw
        cases hw
        obtain ⟨b, us0, F'', e2, hb0, r2, eF2⟩ := od
        refine ⟨b, us0, A ++ (a :: A'), F'', B' ++ B, e2, hb0, r2, by rw [h3, eF, eF', eF2]; simp [List.append_assoc], fun H2 es us G hx hb o => ?_⟩
        have z := h4 Hs H2 (n + 2) (.pin a (xs.set j (.lst es))) (.ref a) (a :: (A' ++ (b :: G) ++ B')) (Same.refl _) (fun x m => hx x (by simp at m ⊢; rcases m with m | m <;> simp [m])) ⟨vs, A' ++ (b :: G) ++ B', rfl, by rw [hx a (by simp)]; exact ha, by
          have z := k1 (Own K Hs H2 (n + 1)) (.lst es) v (b :: G) (fun x w T m p => Own.congr (Same.refl _) (fun t ht => hx t (by have := m t ht; simp at this ⊢; rcases this with m | m <;> simp [m])) p) ⟨b, us, G, e2, hb, o, rfl⟩
          rw [set_id p3] at z
          exact z, rfl⟩
        rw [set_id h1] at z
        have ee : A ++ (a :: A') ++ (b :: G) ++ (B' ++ B) = A ++ (a :: (A' ++ (b :: G) ++ B')) ++ B := by simp [List.append_assoc]
        rw [ee]
        exact z
/-- how a list's items and one thing more come to a new list's items -/
def Edit (ds : List D) (vs : List V) (x : D) (w : V) (es : List D) (us : List V) : Prop :=
  ∀ (P : D → V → List Addr → Prop) (F Fd : List Addr), AllF P ds vs F → P x w Fd → ∃ G G', AllF P es us G ∧ (G ++ G').Perm (F ++ Fd)
theorem edit_append {ds : List D} {vs : List V} {x : D} {w : V} : Edit ds vs x w (ds ++ [x]) (vs ++ [w]) := fun P F Fd h p => ⟨F ++ Fd, [], AllF.append h (AllF.one p), by rw [List.append_nil]⟩
theorem AllF.split {P : D → V → List Addr → Prop} : ∀ {ds : List D} {vs : List V} {F : List Addr} (i : Nat), AllF P ds vs F → ∃ F1 F2, F = F1 ++ F2 ∧ AllF P (ds.take i) (vs.take i) F1 ∧ AllF P (ds.drop i) (vs.drop i) F2
  | ds, vs, F, 0, h => ⟨[], F, rfl, by simp [AllF], h⟩
  | [], vs, F, i + 1, ⟨e, f⟩ => ⟨[], [], by rw [f]; rfl, by rw [e]; simp [AllF], by rw [e]; simp [AllF]⟩
  | d :: ds, vs, F, i + 1, ⟨v, vs', F1, F2, e, p, r, eF⟩ => by
    obtain ⟨G1, G2, e2, h1, h2⟩ := AllF.split i r
    exact ⟨F1 ++ G1, G2, by rw [eF, e2, List.append_assoc], by rw [e]; exact ⟨v, vs'.take i, F1, G1, rfl, p, h1, rfl⟩, by rw [e]; exact h2⟩
theorem edit_insert {ds : List D} {vs : List V} {x : D} {w : V} (i : Nat) : Edit ds vs x w (ds.take i ++ [x] ++ ds.drop i) (vs.take i ++ [w] ++ vs.drop i) := fun P F Fd h p => by
  obtain ⟨F1, F2, e, h1, h2⟩ := AllF.split i h
  refine ⟨F1 ++ Fd ++ F2, [], AllF.append (AllF.append h1 (AllF.one p)) h2, ?_⟩
  rw [e, List.append_nil, List.append_assoc, List.append_assoc]
  exact List.Perm.append_left F1 List.perm_append_comm
theorem edit_set {ds : List D} {vs : List V} {x : D} {w : V} {i : Nat} (hi : i < ds.length) : Edit ds vs x w (ds.set i x) (vs.set i w) := fun P F Fd h p => by
  obtain ⟨v, Fi, A, B, h1, h2, h3, k1, k2⟩ := AllF.at h (List.getElem?_eq_getElem hi)
  refine ⟨A ++ Fd ++ B, Fi, k1 P x w Fd (fun _ _ _ _ q => q) p, ?_⟩
  rw [h3]
  simp only [List.append_assoc]
  refine List.Perm.append_left A ?_
  refine List.Perm.trans (List.Perm.append_left Fd List.perm_append_comm) ?_
  refine List.Perm.trans (List.perm_append_comm_assoc Fd Fi B) ?_
  exact List.Perm.append_left Fi List.perm_append_comm
section
variable {K : PySem.W.Frag} {H0 H : Hp} {σ : Sg} {env : List Slot}
/-- a list in a slot takes the value at hand -/
def EditK (K : PySem.W.Frag) (n : Nat) (ds : List D) (vs : List V) (x : D) (w : V) (es : List D) (us : List V) : Prop :=
  ∀ (Hs H2 : Hp) (F Fd : List Addr), AllF (Own K Hs H2 n) ds vs F → Own K Hs H2 n x w Fd → ∃ G G', AllF (Own K Hs H2 n) es us G ∧ (G ++ G').Perm (F ++ Fd)
theorem Edit.k {n : Nat} {ds es : List D} {vs us : List V} {x : D} {w : V} (h : Edit ds vs x w es us) : EditK K n ds vs x w es us := fun Hs H2 F Fd a b => h _ F Fd a b
theorem Fr.editK {i n N : Nat} {j : Option Nat} {d x : D} {ds : List D} {v w : V} (h : Fr K H0 H (some w :: σ) (.S n x :: env)) (hi : env[i]? = some (.S N d)) (hN : N = lev j n) (pv : PathV H σ i j v) (hd : plGet j d = some ds) :
    ∃ b vs, v = .ref b ∧ H b = some (.lst vs) ∧ vs.length = ds.length ∧ ∀ es us, EditK K n ds vs x w es us → Fr K H0 (upd H b (.lst us)) σ (env.set i (.S N (plPut j d es))) := by
  obtain ⟨Hs, Ft, y⟩ := h
  obtain ⟨w', σ', Fd, F, e, p, cl, eF⟩ := y.cls
  cases e
  have hnd := y.nd
  have hfr := y.fresh
  rw [eF] at hnd hfr
  obtain ⟨b, vs, A, F', B, e1, hb, r, e2, put⟩ := lens cl hi hN pv hd
  refine ⟨b, vs, e1, hb, r.len, fun es us ed => ?_⟩
  subst e2
  obtain ⟨d1, d2, d3⟩ := List.nodup_append.mp hnd
  rw [List.append_assoc] at d2
  obtain ⟨d4, d5, d6⟩ := List.nodup_append.mp d2
  have d5 : (b :: (F' ++ B)).Nodup := d5
  obtain ⟨d7, d8⟩ := List.nodup_cons.mp d5
  obtain ⟨d9, d10, d11⟩ := List.nodup_append.mp d8
  have hbF : b ∉ F' := fun m => d7 (List.mem_append_left _ m)
  have hbB : b ∉ B := fun m => d7 (List.mem_append_right _ m)
  have hbA : b ∉ A := fun m => d6 b m b (by simp) rfl
  have hbD : b ∉ Fd := fun m => d3 b m b (by simp) rfl
  obtain ⟨G, G', oG, pm⟩ := ed Hs (upd H b (.lst us)) F' Fd (AllF.impIn (fun d v T m q => Own.congr (Same.refl _) (fun t ht => upd_ne (fun z => hbF (by rw [← z]; exact m t ht))) q) r)
    (Own.congr (Same.refl _) (fun t ht => upd_ne (fun z => hbD (by rw [← z]; exact ht))) p)
  have mG : ∀ t ∈ G, t ∈ F' ∨ t ∈ Fd := fun t ht => List.mem_append.mp (pm.mem_iff.mp (List.mem_append_left _ ht))
  have ndG : G.Nodup := by
    have z : (F' ++ Fd).Nodup := List.nodup_append.mpr ⟨d9, d1, fun a ha c hc e => d3 c hc a (by simp [ha]) e.symm⟩
    exact (List.nodup_append.mp (pm.nodup_iff.mpr z)).1
  refine ⟨Hs, A ++ (b :: G) ++ B, y.low, fun a o q => ?_, put (upd H b (.lst us)) es us G (fun t ht => upd_ne (fun z => ?_)) upd_same oG, ?_, fun a m => ?_⟩
  · rw [upd_ne (fun z => ?_)]
    · exact y.up a o q
    · subst z
      rw [hfr a (by simp)] at q
      cases q
  · subst z
    rcases List.mem_append.mp ht with m | m
    · exact hbA m
    · exact hbB m
  · rw [List.append_assoc]
    refine List.nodup_append.mpr ⟨d4, List.nodup_cons.mpr ⟨fun m => ?_, List.nodup_append.mpr ⟨ndG, d10, fun a ha c hc e => ?_⟩⟩, fun a ha c hc e => ?_⟩
    · have m : b ∈ G ++ B := m
      rcases List.mem_append.mp m with m | m
      · rcases mG b m with m | m
        · exact hbF m
        · exact hbD m
      · exact hbB m
    · subst e
      rcases mG a ha with m | m
      · exact d11 a m a hc rfl
      · exact d3 a m a (by simp [hc]) rfl
    · subst e
      have hc : a ∈ b :: (G ++ B) := hc
      rcases List.mem_cons.mp hc with m | m
      · exact hbA (m ▸ ha)
      · rcases List.mem_append.mp m with m | m
        · rcases mG a m with m | m
          · exact d6 a ha a (by simp [m]) rfl
          · exact d3 a m a (by simp [ha]) rfl
        · exact d6 a ha a (by simp [m]) rfl
  · simp at m
    rcases m with m | m | m | m
    · exact hfr a (by simp [m])
    · exact hfr a (by simp [m])
    · rcases mG a m with m | m <;> exact hfr a (by simp [m])
    · exact hfr a (by simp [m])
theorem Fr.edit {i n N : Nat} {j : Option Nat} {d x : D} {ds : List D} {v w : V} (h : Fr K H0 H (some w :: σ) (.S n x :: env)) (hi : env[i]? = some (.S N d)) (hN : N = lev j n) (pv : PathV H σ i j v) (hd : plGet j d = some ds) :
    ∃ b vs, v = .ref b ∧ H b = some (.lst vs) ∧ vs.length = ds.length ∧ ∀ es us, Edit ds vs x w es us → Fr K H0 (upd H b (.lst us)) σ (env.set i (.S N (plPut j d es))) := by
  obtain ⟨b, vs, h1, h2, h3, h4⟩ := h.editK hi hN pv hd
  exact ⟨b, vs, h1, h2, h3, fun es us ed => h4 es us ed.k⟩
/-- a list in a slot gives its m-th item away -/
theorem Fr.drop1 {i n N m : Nat} {j : Option Nat} {d y : D} {ds : List D} {v : V} (h : Fr K H0 H σ env) (hi : env[i]? = some (.S N d)) (hN : N = lev j n) (pv : PathV H σ i j v) (hd : plGet j d = some ds) (hm : ds[m]? = some y) :
    ∃ b vs w, v = .ref b ∧ H b = some (.lst vs) ∧ vs.length = ds.length ∧ vs[m]? = some w ∧ Fr K H0 (upd H b (.lst (vs.eraseIdx m))) (some w :: σ) (.S n y :: env.set i (.S N (plPut j d (ds.eraseIdx m)))) := by
  obtain ⟨Hs, F, x⟩ := h
  obtain ⟨b, vs, A, F', B, e1, hb, r, e2, put⟩ := lens x.cls hi hN pv hd
  subst e2
  have hnd := x.nd
  rw [List.append_assoc] at hnd
  obtain ⟨d4, d5, d6⟩ := List.nodup_append.mp hnd
  have d5 : (b :: (F' ++ B)).Nodup := d5
  obtain ⟨d7, d8⟩ := List.nodup_cons.mp d5
  have hbF : b ∉ F' := fun m => d7 (List.mem_append_left _ m)
  have hbB : b ∉ B := fun m => d7 (List.mem_append_right _ m)
  have hbA : b ∉ A := fun m => d6 b m b (by simp) rfl
  obtain ⟨w, Fy, A', B', hw, oy, eF', k1, k2⟩ := AllF.at r hm
  have stay : ∀ t, t ≠ b → upd H b (.lst (vs.eraseIdx m)) t = H t := fun t ht => upd_ne ht
  have o2 : AllF (Own K Hs (upd H b (.lst (vs.eraseIdx m))) n) (ds.eraseIdx m) (vs.eraseIdx m) (A' ++ B') :=
    k2 (Own K Hs (upd H b (.lst (vs.eraseIdx m))) n) (fun d v T mm q => Own.congr (Same.refl _) (fun t ht => stay t (fun z => hbF (by rw [eF', ← z]; have := mm t ht; simp at this ⊢; rcases this with q | q <;> simp [q]))) q)
  have oy2 : Own K Hs (upd H b (.lst (vs.eraseIdx m))) n y w Fy := Own.congr (Same.refl _) (fun t ht => stay t (fun z => hbF (by rw [eF', ← z]; simp [ht]))) oy
  have pm : (Fy ++ (A ++ (b :: (A' ++ B')) ++ B)).Perm (A ++ (b :: F') ++ B) := by
    rw [eF']
    simp only [List.append_assoc, List.cons_append]
    refine List.Perm.trans (List.perm_append_comm_assoc Fy A _) (List.Perm.append_left A ?_)
    refine List.Perm.trans List.perm_middle (List.Perm.cons b ?_)
    exact List.perm_append_comm_assoc Fy A' _
  refine ⟨b, vs, w, e1, hb, r.len, hw, Hs, Fy ++ (A ++ (b :: (A' ++ B')) ++ B), x.low, fun a o q => ?_, ⟨w, σ, Fy, _, rfl, oy2, put (upd H b (.lst (vs.eraseIdx m))) _ _ _ (fun t ht => stay t (fun z => ?_)) upd_same o2, rfl⟩, pm.nodup_iff.mpr x.nd, fun a m => x.fresh a (pm.mem_iff.mp m)⟩
  · rw [stay a (fun z => ?_)]
    · exact x.up a o q
    · subst z
      rw [x.fresh a (by simp)] at q
      cases q
  · subst z
    rcases List.mem_append.mp ht with m | m
    · exact hbA m
    · exact hbB m
end
end Sw

/- part SwSt4 -/
/-! Rules for statements. -/
namespace Sw
open PySem PySem.Spec PyProof.Rows L2
/-- a place in a sequence -/
def idxD (x y : D) : Rs Nat := match x, y with
  | .lst xs, .int i => match ixN xs.length i with
    | some j => .nx j
    | none => .err
  | .tup xs, .int i => match ixN xs.length i with
    | some j => .nx j
    | none => .err
  | .pin _ xs, .int i => match ixN xs.length i with
    | some j => .nx j
    | none => .err
  | _, _ => .err
/-- the list at a place, changed by f -/
def edD (j : Option Nat) (f : List D → Rs (List D)) (d : D) : Rs D := match plGet j d with
  | some ds => (f ds).bind fun es => .nx (plPut j d es)
  | none => .err
def appL (x : D) (ds : List D) : Rs (List D) := if ds.length < sizeLine then .nx (ds ++ [x]) else .err
def insL (i x : D) (ds : List D) : Rs (List D) := match i with
  | .int i => if ds.length < sizeLine ∧ 0 ≤ i ∧ i < 2 ^ 63 then .nx (ds.take i.toNat ++ [x] ++ ds.drop i.toNat) else .err
  | _ => .err
def setL (k x : D) (ds : List D) : Rs (List D) := match k with
  | .int k => match ixN ds.length k with
    | some m => .nx (ds.set m x)
    | none => .err
  | _ => .err
def Recv (X : Cx) (W : WX) (er : Expr) (env : List Slot) (i : Nat) (oj : Rs (Option Nat)) : Prop :=
  ∀ (H0 : Hp) (σ : Sg) (H : Hp) (Q : VK), Fr X.K H0 H σ env →
    (match oj with
      | .nx j => ∀ v H', Same H H' → PathV H' σ i j v → Q v H'
      | .exc m => ∀ C, X.mg m = some (.ref C) → ∀ H', Same H H' → W (.ref C) none σ H'
      | _ => False) → wE X er σ H Q
section
variable {X : Cx} {W : WX} {xv : List Slot} {k : Kd} {α β γ S : Type} {env env' : List Slot} {mk : α → List Slot} {lk : β → List Slot} {e er : Expr} {rest : List Stmt} {pos : Pos} {H0 H H' : Hp} {σ : Sg} {D : Ends}
theorem recv_var {N : Nat} {d : Sw.D} {x : Str} (i : Nat) (hi : env[i]? = some (.S N d) := by rfl) (hN : X.N[i]? = some x := by rfl)
    (hv : Vis X.env.scope x := by first | exact Or.inl rfl | exact Or.inr (Or.inl rfl) | exact Or.inr (Or.inr rfl)) (hd : (x == ("__debug__" : Str)) = false := by decide)
    (hcd : (x == ("__classdict__" : Str)) = false := by decide) : Recv X W (.Name x pos) env i (.nx none) := fun H0 σ H Q hF q => by
  obtain ⟨v, h1, _⟩ := hF.rd.get i d (by rw [List.getElem?_map, hi]; rfl)
  exact wE.of (pe_var hN hv hd hcd) ⟨v, h1, q v H (Same.refl _) h1⟩
theorem recv_ix {N : Nat} {d : Sw.D} {x : Str} {p : Pos} {b : Expr} {ob : Rs Sw.D} (i : Nat) (hb : Ev X W .R b (dat env) ob) (hi : env[i]? = some (.S N d) := by rfl) (hN : X.N[i]? = some x := by rfl)
    (hv : Vis X.env.scope x := by first | exact Or.inl rfl | exact Or.inr (Or.inl rfl) | exact Or.inr (Or.inr rfl)) (hd : (x == ("__debug__" : Str)) = false := by decide)
    (hcd : (x == ("__classdict__" : Str)) = false := by decide) (hs : PlainIx b := by exact (fun _ _ => rfl)) : Recv X W (.Subscript (.Name x p) b pos) env i (ob.bind fun y => (idxD d y).bind fun j => .nx (some j)) := fun H0 σ H Q hF q => by
  obtain ⟨v, h1, rv⟩ := hF.rd.get i d (by rw [List.getElem?_map, hi]; rfl)
  refine wE.of (pe_ix ix_seq (pe_var hN hv hd hcd) (wE.pe X b) hs) ⟨v, h1, ?_⟩
  show wE X b σ H _
  refine hb σ H _ hF.rd ?_
  cases ob with
  | nx y =>
    intro w H1 s1 ry
    have q : match ((idxD d y).bind fun j => .nx (some j) : Rs (Option Nat)) with
      | .nx j => ∀ v H', Same H H' → PathV H' σ i j v → Q v H'
      | .exc m => ∀ C, X.mg m = some (.ref C) → ∀ H', Same H H' → W (.ref C) none σ H'
      | _ => False := q
    cases y with
    | int t =>
      have ry : Rep X.K H1 (.int t) w := ry
      unfold Rep at ry
      cases d with
      | lst xs =>
        unfold Rep at rv
        obtain ⟨a, vs, e, ha, r⟩ := rv
        unfold idxD at q
        cases ej : ixN xs.length t with
        | none => simp only [ej] at q; exact q.elim
        | some j =>
          simp only [ej] at q
          have hj := (ixN_seq ej).2.1
          obtain ⟨u, hu, _⟩ := r.get (List.getElem?_eq_getElem hj)
          exact .inl ⟨a, vs, t, u, e, ry, SqL.of (s1 _ _ ha), by unfold atI; rw [r.len, ej]; exact hu, q u H1 s1 ⟨a, vs, by rw [h1, e], .inl (s1 _ _ ha), hu⟩⟩
      | pin a0 xs =>
        unfold Rep at rv
        obtain ⟨e, vs, ha, r⟩ := rv
        unfold idxD at q
        cases ej : ixN xs.length t with
        | none => simp only [ej] at q; exact q.elim
        | some j =>
          simp only [ej] at q
          have hj := (ixN_seq ej).2.1
          obtain ⟨u, hu, _⟩ := r.get (List.getElem?_eq_getElem hj)
          exact .inl ⟨a0, vs, t, u, e, ry, SqL.of (s1 _ _ ha), by unfold atI; rw [r.len, ej]; exact hu, q u H1 s1 ⟨a0, vs, by rw [h1, e], .inl (s1 _ _ ha), hu⟩⟩
      | tup xs =>
        unfold Rep at rv
        obtain ⟨a, vs, e, ha, r⟩ := rv
        unfold idxD at q
        cases ej : ixN xs.length t with
        | none => simp only [ej] at q; exact q.elim
        | some j =>
          simp only [ej] at q
          have hj := (ixN_seq ej).2.1
          obtain ⟨u, hu, _⟩ := r.get (List.getElem?_eq_getElem hj)
          exact .inr (.inl ⟨a, vs, t, u, e, ry, SqT.of (s1 _ _ ha), by unfold atI; rw [r.len, ej]; exact hu, q u H1 s1 ⟨a, vs, by rw [h1, e], .inr (s1 _ _ ha), hu⟩⟩)
      | _ => exact q.elim
    | _ => cases d <;> exact q.elim
  | exc m => exact q
  | err => exact q
/-- what is handed to Recv's end -/
theorem Recv.first {i : Nat} {o : Rs (Option Nat)} {g : Option Nat → Out β α} {Q : VK} (h : Recv X W er env i o) (hF : Fr X.K H0 H σ env) (hx : XOk env xv) (q : PostS X W xv k H0 D mk lk (o.to g))
    (hn : ∀ j v H', o = .nx j → Same H H' → PathV H' σ i j v → PostS X W xv k H0 D mk lk (g j) → Q v H') : wE X er σ H Q := by
  refine h H0 σ H Q hF ?_
  cases o with
  | nx d => exact fun v H' sm f => hn d v H' rfl sm f q
  | exc m => exact fun C hC H' sm => q C hC σ H' (hF.same.trans sm) ((hF.grow sm).toXv hx)
  | err => exact q
/-- what is handed on by a computation on data -/
theorem PostS.got {δ : Type} {o : Rs δ} {g : δ → Out β α} (q : PostS X W xv k H0 D mk lk (o.to g)) (hno : ∀ m, o ≠ .exc m) : ∃ d, o = .nx d ∧ PostS X W xv k H0 D mk lk (g d) := by
  cases o with
  | nx d => exact ⟨d, rfl, q⟩
  | exc m => exact absurd rfl (hno m)
  | err => exact q.elim
theorem edD_no {j : Option Nat} {f : List Sw.D → Rs (List Sw.D)} {d : Sw.D} (hf : ∀ ds m, f ds ≠ .exc m) : ∀ m, edD j f d ≠ .exc m := fun m z => by
  unfold edD at z
  cases e : plGet j d with
  | none => rw [e] at z; cases z
  | some ds =>
    rw [e] at z
    cases e2 : f ds with
    | nx es => simp only [e2] at z; cases z
    | exc m => exact hf ds m e2
    | err => simp only [e2] at z; cases z
theorem edD_nx {j : Option Nat} {f : List Sw.D → Rs (List Sw.D)} {d d' : Sw.D} (z : edD j f d = .nx d') : ∃ ds es, plGet j d = some ds ∧ f ds = .nx es ∧ d' = plPut j d es := by
  unfold edD at z
  cases e : plGet j d with
  | none => rw [e] at z; cases z
  | some ds =>
    rw [e] at z
    cases e2 : f ds with
    | nx es => simp only [e2] at z; cases z; exact ⟨ds, es, rfl, e2, rfl⟩
    | exc m => simp only [e2] at z; cases z
    | err => simp only [e2] at z; cases z
theorem appL_no {x : Sw.D} : ∀ ds m, appL x ds ≠ .exc m := fun ds m z => by
  unfold appL at z
  split at z <;> cases z
theorem insL_no {i x : Sw.D} : ∀ ds m, insL i x ds ≠ .exc m := fun ds m z => by
  unfold insL at z
  split at z
  · split at z <;> cases z
  · cases z
theorem setL_no {i x : Sw.D} : ∀ ds m, setL i x ds ≠ .exc m := fun ds m z => by
  unfold setL at z
  split at z
  · split at z <;> cases z
  · cases z
/-- the end of x.append(e), x.insert(i, e), x[k] = e: the list's items take e's value -/
theorem edit_end {i n N : Nat} {j : Option Nat} {d x : Sw.D} {v w : V} {f : List Sw.D → Rs (List Sw.D)} {g : Sw.D → Out β α} (hf : ∀ ds m, f ds ≠ .exc m) (hF : Fr X.K H0 H (some w :: σ) (.S n x :: env)) (hi : env[i]? = some (.S N d)) (hN : N = lev j n) (pv : PathV H σ i j v)
    (q : PostS X W xv k H0 D mk lk ((edD j f d).to g)) : ∃ b vs ds es, v = .ref b ∧ H b = some (.lst vs) ∧ vs.length = ds.length ∧ plGet j d = some ds ∧ f ds = .nx es ∧ PostS X W xv k H0 D mk lk (g (plPut j d es)) ∧
      ∀ us, Edit ds vs x w es us → Fr X.K H0 (upd H b (.lst us)) σ (env.set i (.S N (plPut j d es))) := by
  obtain ⟨d', e1, q1⟩ := q.got (edD_no hf)
  obtain ⟨ds, es, h1, h2, h3⟩ := edD_nx e1
  subst h3
  obtain ⟨b, vs, e, hb, hl, ed⟩ := hF.edit hi hN pv h1
  exact ⟨b, vs, ds, es, e, hb, hl, h1, h2, q1, fun us he => ed es us he⟩
theorem ty_list {K : PySem.W.Frag} {b : Addr} {vs : List V} (h : H b = some (.lst vs)) : tyV K "list" (.ref b) H := Or.inl ⟨rfl, _, Or.inl (Or.inl h)⟩
theorem lev_some {n : Nat} {d : Sw.D} {ob : Rs Sw.D} : ∀ j : Option Nat, (ob.bind fun y => (idxD d y).bind fun j => .nx (some j)) = .nx j → n + 2 = lev j n := fun j h => by
  cases ob with
  | nx y =>
    simp only [Rs.bind_nx] at h
    cases e : idxD d y with
    | nx m => rw [e] at h; cases h; rfl
    | exc m => rw [e] at h; cases h
    | err => rw [e] at h; cases h
  | exc m => cases h
  | err => cases h
theorem lev_none {n : Nat} : ∀ j : Option Nat, (.nx none : Rs (Option Nat)) = .nx j → n + 1 = lev j n := fun j h => by cases h; rfl
/-- what stands at a place, in a frame -/
theorem place_of {i N : Nat} {j : Option Nat} {d : Sw.D} {ds : List Sw.D} {v : V} (hr : RdF X.K H σ (dat env)) (hi : env[i]? = some (.S N d)) (pv : PathV H σ i j v) (hd : plGet j d = some ds) : ∃ b vs, v = .ref b ∧ H b = some (.lst vs) ∧ RepL X.K H ds vs := by
  obtain ⟨v0, h1, r⟩ := hr.get i d (by rw [List.getElem?_map, hi]; rfl)
  have inn : ∀ {xs : List Sw.D} {us : List V} {a : Addr} {j : Nat}, RepL X.K H xs us → xs[j]? = some (.lst ds) → us[j]? = some v → ∃ b vs, v = .ref b ∧ H b = some (.lst vs) ∧ RepL X.K H ds vs := fun {xs us a j} r h h' => by
    obtain ⟨w, hw, rw'⟩ := r.get h
    rw [h'] at hw
    cases hw
    unfold Rep at rw'
    exact rw'
  cases j with
  | none =>
    have pv : σ[i]? = some (some v) := pv
    rw [h1] at pv
    cases pv
    cases d <;> simp [plGet] at hd
    · subst hd
      unfold Rep at r
      exact r
    · subst hd
      unfold Rep at r
      obtain ⟨e, vs, ha, r⟩ := r
      exact ⟨_, vs, e, ha, r⟩
  | some j =>
    obtain ⟨a, vs, p1, p2, p3⟩ := pv
    rw [h1] at p1
    cases p1
    cases d <;> simp [plGet] at hd
    · rename_i xs
      unfold Rep at r
      obtain ⟨a', us, e, ha, r⟩ := r
      cases e
      have ev : vs = us := by rcases p2 with p2 | p2 <;> (rw [ha] at p2; cases p2) <;> rfl
      subst ev
      cases ex : xs[j]? with
      | none => rw [ex] at hd; cases hd
      | some y =>
        rw [ex] at hd
        cases y <;> simp at hd
        subst hd
        exact inn (a := a) r ex p3
    · rename_i xs
      unfold Rep at r
      obtain ⟨a', us, e, ha, r⟩ := r
      cases e
      have ev : vs = us := by rcases p2 with p2 | p2 <;> (rw [ha] at p2; cases p2) <;> rfl
      subst ev
      cases ex : xs[j]? with
      | none => rw [ex] at hd; cases hd
      | some y =>
        rw [ex] at hd
        cases y <;> simp at hd
        subst hd
        exact inn (a := a) r ex p3
    · rename_i a1 xs
      unfold Rep at r
      obtain ⟨e, us, ha, r⟩ := r
      cases e
      have ev : vs = us := by rcases p2 with p2 | p2 <;> (rw [ha] at p2; cases p2) <;> rfl
      subst ev
      cases ex : xs[j]? with
      | none => rw [ex] at hd; cases hd
      | some y =>
        rw [ex] at hd
        cases y <;> simp at hd
        subst hd
        exact inn (a := a) r ex p3
/-- the list at a place takes e's value by f -/
def opD (j : Option Nat) (f : Sw.D → List Sw.D → Rs (List Sw.D)) (d : Sw.D) (oa : Rs Sw.D) : Rs Sw.D := match plGet j d with
  | some ds => oa.bind fun x => (f x ds).bind fun es => .nx (plPut j d es)
  | none => .err
def insD (j : Option Nat) (d : Sw.D) (oi oa : Rs Sw.D) : Rs Sw.D := match plGet j d with
  | some ds => oi.bind fun y => oa.bind fun x => (insL y x ds).bind fun es => .nx (plPut j d es)
  | none => .err
/-- x.append(e), x[j].append(e) -/
theorem ex_app {n N : Nat} {d : Sw.D} {ap cp : Pos} {ea : Expr} {oj : Rs (Option Nat)} {oa : Rs Sw.D} {g : Sw.D → Out β α} (i : Nat) (hrc : Recv X W er env i oj) (ha : EvM X W n ea env env' oa) (hr : ∀ d', Ex X W xv k rest (env'.set i (.S N d')) (g d') mk lk)
    (hi : env[i]? = some (.S N d)) (hi' : env'[i]? = some (.S N d)) (hN : ∀ j, oj = .nx j → N = lev j n) (hx : XOk env xv := by first | exact Or.inl rfl | exact Or.inr (by repeat (first | exact Wk.nil | refine Wk.keep ?_ | refine Wk.drop ?_))) (hs1 : starEach (ea :: []) X.env = (false, eval ea X.env) :: starEach [] X.env := by rfl)
    (hbase : attributeBase er "append" X.env (eval er X.env) = eval er X.env := by rfl)
    (hfew : ((backTo cp (starEach [ea] X.env)).all (fun x => !x.1) && (backToKw cp (keywordEach [] X.env)).all (fun x => x.1.isSome)
      && decide (([ea] : List Expr).length + ([] : List Keyword).length + (if ([] : List Keyword).isEmpty then 0 else 1) < 30)) = true := by rfl)
    (hline : (ap.endLine == cp.line) = true := by rfl) (hplain : (backTo cp (starEach [] X.env)).any (·.1) = false := by rfl)
    (hs : swapsWith (.Call (.Attribute er "append" ap) [ea] [] cp) none pos.line X.env = pure false := by rfl) :
    Ex X W xv k (.Expr (.Call (.Attribute er "append" ap) [ea] [] cp) pos :: rest) env (oj.to fun j => (opD j appL d oa).to g) mk lk := fun H0 σ H D hF q => by
  refine wSs.cons (ps_expr (pe_bm PySem.F.plainAttrs_list PySem.F.slot_list_append PySem.F.type_list_append mt_append (wE.pe X er) (pa_cons (wE.pe X ea) pa_nil hs1) hbase hfew hline hs1 hplain) hs) ?_
  show wE X er σ H _
  refine hrc.first hF hx q fun j v H1 ejj s1 pv q1 => ?_
  have hF1 := hF.grow s1
  unfold opD at q1
  cases ep : plGet j d with
  | none => simp only [ep] at q1; exact q1.elim
  | some ds =>
    simp only [ep] at q1
    obtain ⟨b, vs, ev, hb, _⟩ := place_of hF1.rd hi pv ep
    subst ev
    refine ⟨ty_list hb, ?_⟩
    show wE X ea σ H1 _
    refine ha H0 σ H1 _ hF1 ?_
    cases oa with
    | nx x =>
      intro w H2 s2 f2
      have q2 : PostS X W xv k H0 D mk lk ((edD j (appL x) d).to g) := by
        unfold edD
        rw [ep]
        exact q1
      have hNj : N = lev j n := hN j ejj
      obtain ⟨b', us, ds', es, e1, hb', hl, hd', he, q3, fr⟩ := edit_end appL_no f2 hi' hNj (pv.mono s2) q2
      cases e1
      unfold appL at he
      split at he
      · cases he
        refine ⟨b, us, w, rfl, rfl, hb', by rw [hl]; assumption, ?_⟩
        exact hr _ H0 _ _ D (fr _ edit_append) q3
      · cases he
    | exc m => exact fun C hC H' sm => q1 C hC σ H' (hF1.same.trans sm) ((hF1.grow sm).toXv hx)
    | err => exact q1
/-- x.insert(i, e) -/
theorem ex_ins {n N : Nat} {d : Sw.D} {ap cp : Pos} {eb ea : Expr} {oj : Rs (Option Nat)} {ob oa : Rs Sw.D} {g : Sw.D → Out β α} (i : Nat) (hrc : Recv X W er env i oj) (hb : Ev X W .R eb (dat env) ob) (ha : EvM X W n ea env env' oa)
    (hr : ∀ d', Ex X W xv k rest (env'.set i (.S N d')) (g d') mk lk)
    (hi : env[i]? = some (.S N d)) (hi' : env'[i]? = some (.S N d)) (hN : ∀ j, oj = .nx j → N = lev j n) (hx : XOk env xv := by first | exact Or.inl rfl | exact Or.inr (by repeat (first | exact Wk.nil | refine Wk.keep ?_ | refine Wk.drop ?_))) (hs1 : starEach (eb :: [ea]) X.env = (false, eval eb X.env) :: starEach [ea] X.env := by rfl)
    (hs2 : starEach (ea :: []) X.env = (false, eval ea X.env) :: starEach [] X.env := by rfl)
    (hbase : attributeBase er "insert" X.env (eval er X.env) = eval er X.env := by rfl)
    (hfew : ((backTo cp (starEach [eb, ea] X.env)).all (fun x => !x.1) && (backToKw cp (keywordEach [] X.env)).all (fun x => x.1.isSome)
      && decide (([eb, ea] : List Expr).length + ([] : List Keyword).length + (if ([] : List Keyword).isEmpty then 0 else 1) < 30)) = true := by rfl)
    (hline : (ap.endLine == cp.line) = true := by rfl) (hplain : (backTo cp (starEach [ea] X.env)).any (·.1) = false := by rfl)
    (hs : swapsWith (.Call (.Attribute er "insert" ap) [eb, ea] [] cp) none pos.line X.env = pure false := by rfl) :
    Ex X W xv k (.Expr (.Call (.Attribute er "insert" ap) [eb, ea] [] cp) pos :: rest) env (oj.to fun j => (insD j d ob oa).to g) mk lk := fun H0 σ H D hF q => by
  refine wSs.cons (ps_expr (pe_bm PySem.F.plainAttrs_list PySem.F.slot_list_insert PySem.F.type_list_insert mt_insert (wE.pe X er) (pa_cons (wE.pe X eb) (pa_cons (wE.pe X ea) pa_nil hs2) hs1) hbase hfew hline hs1 hplain) hs) ?_
  show wE X er σ H _
  refine hrc.first hF hx q fun j v H1 ejj s1 pv q1 => ?_
  have hF1 := hF.grow s1
  unfold insD at q1
  cases ep : plGet j d with
  | none => simp only [ep] at q1; exact q1.elim
  | some ds =>
    simp only [ep] at q1
    obtain ⟨b, vs, ev, hb0, _⟩ := place_of hF1.rd hi pv ep
    subst ev
    refine ⟨ty_list hb0, ?_⟩
    show wE X eb σ H1 _
    refine hb σ H1 _ hF1.rd ?_
    cases ob with
    | nx y =>
      intro wy Hy sy ry
      have ry : Rep X.K Hy y wy := ry
      have hFy := hF1.grow sy
      show wE X ea σ Hy _
      refine ha H0 σ Hy _ hFy ?_
      cases oa with
      | nx x =>
        intro w H2 s2 f2
        have q2 : PostS X W xv k H0 D mk lk ((edD j (insL y x) d).to g) := by
          unfold edD
          rw [ep]
          exact q1
        obtain ⟨b', us, ds', es, e1, hb', hl, hd', he, q3, fr⟩ := edit_end insL_no f2 hi' (hN j ejj) ((pv.mono sy).mono s2) q2
        cases e1
        cases y with
        | int t =>
          unfold Rep at ry
          have he : (if ds'.length < sizeLine ∧ 0 ≤ t ∧ t < 2 ^ 63 then (Rs.nx (ds'.take t.toNat ++ [x] ++ ds'.drop t.toNat)) else .err) = .nx es := he
          split at he
          · rename_i c
            cases he
            refine ⟨b, us, t, w, rfl, by rw [ry], hb', by rw [hl]; exact c.1, c.2.1, c.2.2, ?_⟩
            exact hr _ H0 _ _ D (fr _ (edit_insert t.toNat)) q3
          · cases he
        | _ => cases he
      | exc m => exact fun C hC H' sm => q1 C hC σ H' (hFy.same.trans sm) ((hFy.grow sm).toXv hx)
      | err => exact q1
    | exc m => exact fun C hC H' sm => q1 C hC σ H' (hF1.same.trans sm) ((hF1.grow sm).toXv hx)
    | err => exact q1
/-- x[b] = e, x[j][b] = e -/
theorem ex_ix {n N : Nat} {d : Sw.D} {sp : Pos} {eb : Expr} {oj : Rs (Option Nat)} {ob oe : Rs Sw.D} {g : Sw.D → Out β α} (i : Nat) (he : EvM X W n e env env' oe) (hrc : Recv X W er env' i oj) (hb : Ev X W .R eb (dat env') ob)
    (hr : ∀ d', Ex X W xv k rest (env'.set i (.S N d')) (g d') mk lk) (hi : env'[i]? = some (.S N d)) (hN : ∀ j, oj = .nx j → N = lev j n) (hx : XOk env xv := by first | exact Or.inl rfl | exact Or.inr (by repeat (first | exact Wk.nil | refine Wk.keep ?_ | refine Wk.drop ?_))) (hx' : XOk env' xv := by exact Or.inl rfl)
    (hp : ∀ {te to ti : TE}, PE X e te → PE X er to → PE X eb ti → PS X (.Assign [.Subscript er eb sp] e pos) (tAsg te (gSub to ti rSetL)) := by exact fun h1 h2 h3 => ps_asg h1 (pg_sub h2 h3 set_list)) :
    Ex X W xv k (.Assign [.Subscript er eb sp] e pos :: rest) env (oe.to fun x => oj.to fun j => ob.to fun y => (edD j (setL y x) d).to g) mk lk := fun H0 σ H D hF q => by
  refine wSs.cons (hp (wE.pe X e) (wE.pe X er) (wE.pe X eb)) ?_
  show wE X e σ H _
  refine he.first hF hx q fun x w H1 s1 f1 q1 => ?_
  have hF1 := f1.pop0
  show wE X er σ H1 _
  refine hrc.first hF1 hx' q1 fun j v H2 ejj s2 pv q2 => ?_
  have hF2 := hF1.grow s2
  show wE X eb σ H2 _
  refine hb σ H2 _ hF2.rd ?_
  cases ob with
  | nx y =>
    intro wy H3 s3 ry
    have ry : Rep X.K H3 y wy := ry
    have f3 := f1.grow (s2.trans s3)
    obtain ⟨b, us, ds, es, e1, hb', hl, hd', hes, q3, fr⟩ := edit_end setL_no f3 hi (hN j ejj) (pv.mono s3) q2
    cases y with
    | int t =>
      unfold Rep at ry
      unfold setL at hes
      cases em : ixN ds.length t with
      | none => simp only [em] at hes; cases hes
      | some m =>
        simp only [em] at hes
        cases hes
        have hm := (ixN_seq em).2.1
        exact ⟨b, us, t, m, e1, ry, hb', by rw [hl]; exact em, hr _ H0 _ _ D (fr _ (edit_set hm)) q3⟩
    | _ => cases hes
  | exc m => exact fun C hC H' sm => q2 C hC σ H' (hF2.same.trans sm) ((hF2.grow sm).toXv hx')
  | err => exact q2
/-- x.extend(e), flat things -/
def extD (j : Option Nat) (d : Sw.D) (oa : Rs Sw.D) : Rs Sw.D := match plGet j d with
  | some ds => oa.bind fun x => match x with
    | .lst es => if ds.length + es.length ≤ sizeLine ∧ es.all Sw.D.atom = true then .nx (plPut j d (ds ++ es)) else .err
    | _ => .err
  | none => .err
theorem ex_extA {n N : Nat} {d : Sw.D} {ap cp : Pos} {ea : Expr} {oj : Rs (Option Nat)} {oa : Rs Sw.D} {g : Sw.D → Out β α} (i : Nat) (hrc : Recv X W er env i oj) (ha : Ev X W .R ea (dat env) oa) (hr : ∀ d', Ex X W xv k rest (env.set i (.S N d')) (g d') mk lk)
    (hi : env[i]? = some (.S N d)) (hN : ∀ j, oj = .nx j → N = lev j n) (hx : XOk env xv := by first | exact Or.inl rfl | exact Or.inr (by repeat (first | exact Wk.nil | refine Wk.keep ?_ | refine Wk.drop ?_))) (hs1 : starEach (ea :: []) X.env = (false, eval ea X.env) :: starEach [] X.env := by rfl)
    (hbase : attributeBase er "extend" X.env (eval er X.env) = eval er X.env := by rfl)
    (hfew : ((backTo cp (starEach [ea] X.env)).all (fun x => !x.1) && (backToKw cp (keywordEach [] X.env)).all (fun x => x.1.isSome)
      && decide (([ea] : List Expr).length + ([] : List Keyword).length + (if ([] : List Keyword).isEmpty then 0 else 1) < 30)) = true := by rfl)
    (hline : (ap.endLine == cp.line) = true := by rfl) (hplain : (backTo cp (starEach [] X.env)).any (·.1) = false := by rfl)
    (hs : swapsWith (.Call (.Attribute er "extend" ap) [ea] [] cp) none pos.line X.env = pure false := by rfl) :
    Ex X W xv k (.Expr (.Call (.Attribute er "extend" ap) [ea] [] cp) pos :: rest) env (oj.to fun j => (extD j d oa).to g) mk lk := fun H0 σ H D hF q => by
  refine wSs.cons (ps_expr (pe_bm PySem.F.plainAttrs_list PySem.F.slot_list_extend PySem.F.type_list_extend mt_extend (wE.pe X er) (pa_cons (wE.pe X ea) pa_nil hs1) hbase hfew hline hs1 hplain) hs) ?_
  show wE X er σ H _
  refine hrc.first hF hx q fun j v H1 ejj s1 pv q1 => ?_
  have hF1 := hF.grow s1
  unfold extD at q1
  cases ep : plGet j d with
  | none => simp only [ep] at q1; exact q1.elim
  | some ds =>
    simp only [ep] at q1
    obtain ⟨b, vs, ev, hb, _⟩ := place_of hF1.rd hi pv ep
    subst ev
    refine ⟨ty_list hb, ?_⟩
    show wE X ea σ H1 _
    refine ha σ H1 _ hF1.rd ?_
    cases oa with
    | nx x =>
      intro w H2 s2 r2
      have r2 : Rep X.K H2 x w := r2
      have hF2 := hF1.grow s2
      cases x with
      | lst es =>
        by_cases c : ds.length + es.length ≤ sizeLine ∧ es.all Sw.D.atom = true
        · have q2 : PostS X W xv k H0 D mk lk (g (plPut j d (ds ++ es))) := by
            simp only [Rs.bind_nx, if_pos c, Rs.to_nx] at q1
            exact q1
          unfold Rep at r2
          obtain ⟨p, ws, e2, hp, rw2⟩ := r2
          subst e2
          have f2 : Fr X.K H0 H2 (some .non :: σ) (.S n .non :: env) := hF2.push (Same.refl _) (Kd.atom (H2 := H2) rfl (by unfold Rep; rfl) (.O n))
          obtain ⟨b', us, e1, hb', hl, ed⟩ := f2.editK hi (hN j ejj) (pv.mono s2) ep
          cases e1
          have hl2 := rw2.len
          refine ⟨b, p, us, ws, rfl, rfl, hb', hp, by rw [hl, hl2]; exact c.1, ?_⟩
          refine hr _ H0 _ _ D (ed (ds ++ es) (us ++ ws) ?_) q2
          intro Hs H3 F Fd h1 h2
          refine ⟨F, Fd, ?_, .refl _⟩
          have := AllF.append h1 (all_atoms (n := n) (Hs := Hs) (H2 := H3) c.2 rw2)
          rwa [List.append_nil] at this
        · simp only [Rs.bind_nx, if_neg c, Rs.to_err] at q1
          exact q1.elim
      | _ => exact q1.elim
    | exc m => exact fun C hC H' sm => q1 C hC σ H' (hF1.same.trans sm) ((hF1.grow sm).toXv hx)
    | err => exact q1
/-! ### ifs, loops -/
theorem ex_if {c : Expr} {A B : List Stmt} {oc : Rs Bool} {oA oB : Out β γ} {g : γ → Out β α} {mkS : γ → List Slot} (hc : EvT X W c (dat env) oc) (ha : Ex X W xv k A env oA mkS lk) (hb : Ex X W xv k B env oB mkS lk) (hr : ∀ s, Ex X W xv k rest (mkS s) (g s) mk lk)
    (hx : XOk env xv := by first | exact Or.inl rfl | exact Or.inr (by repeat (first | exact Wk.nil | refine Wk.keep ?_ | refine Wk.drop ?_))) : Ex X W xv k (.If c A B pos :: rest) env ((oc.to fun b => if b = true then oA else oB).bind g) mk lk := fun H0 σ H D hF q => by
  refine wSs.cons (ps_if (wT.pt X c) (wSs.pss X A) (wSs.pss X B)) ?_
  show wT X c σ H _
  have q' : PostS X W xv k H0 { D with nx := wSs X rest D } mkS lk (oc.to fun b => if b = true then oA else oB) := q.first (fun s p σ' H' f => hr s H0 σ' H' D f p) rfl rfl rfl
  refine hc.first hF hx q' fun b H' sm p => ?_
  cases b with
  | true => exact if_pos rfl ▸ ha H0 σ H' _ (hF.grow sm) (by simpa using p)
  | false => exact (if_neg Bool.false_ne_true) ▸ hb H0 σ H' _ (hF.grow sm) (by simpa using p)
/-- the turns of a for -/
def forL {β S ι : Type} (b : ι → S → Out S S) : List ι → S → Out β S
  | [], s => .nx s
  | d :: r, s => match b d s with
    | .nx s' => forL b r s'
    | .ct s' => forL b r s'
    | .bk s' => .nx s'
    | .rt d => .rt d
    | .exc m => .exc m
    | .err => .err
theorem forL_cons {ι : Type} (b : ι → S → Out S S) (d : ι) (r : List ι) (s : S) : (forL b (d :: r) s : Out β S) = match b d s with
    | .nx s' => forL b r s'
    | .ct s' => forL b r s'
    | .bk s' => .nx s'
    | .rt d => .rt d
    | .exc m => .exc m
    | .err => .err := rfl
theorem Fr.base {H1 : Hp} (sm : Same H0 H1) (h : Fr X.K H1 H σ env) : Fr X.K H0 H σ env := by
  obtain ⟨Hs, F, x⟩ := h
  exact ⟨Hs, F, sm.trans x.low, x.up, x.cls, x.nd, x.fresh⟩
theorem PostS.base {H1 : Hp} {o : Out β α} (sm : Same H0 H1) (h : PostS X W xv k H0 D mk lk o) : PostS X W xv k H1 D mk lk o := by
  cases o with
  | nx a => exact fun σ' H' f => h σ' H' (f.base sm)
  | rt d => exact fun v H' s r => h v H' (sm.trans s) (r.back sm)
  | bk b => exact fun σ' H' f => h σ' H' (f.base sm)
  | ct b => exact fun σ' H' f => h σ' H' (f.base sm)
  | exc m => exact fun C hC σ' H' s r => h C hC σ' H' (sm.trans s) (r.imp id fun f => f.base sm)
  | err => exact h
/-- a for over what yields the data ds, all of it in Hs -/
theorem for_core {J : It} {n : Nat} {G : Hp → Prop} {Y : Nat → Hp → V → Hp → Prop} (w : Walk J n G Y) {ds : List Sw.D} (hn : n = ds.length) {Hs : Hp} (hG : ∀ H, Same Hs H → G H)
    (hY : ∀ i H x H', Same Hs H → Y i H x H' → H' = H ∧ ∀ d, ds[i]? = some d → Rep X.K Hs d x) {ix : Nat} {b : Sw.D → S → Out S S} {body : List Stmt} {mkS : S → List Slot} (hix : ∀ s, ix < (mkS s).length)
    (hb : ∀ d s, Ex X W xv k body ((mkS s).set ix (.S 0 d)) (b d s) mkS mkS) {s0 : S} {D : Ends} (hF : Fr X.K Hs H σ (mkS s0)) (q : PostS X W xv k Hs D mkS lk (forL b ds s0 : Out β S)) :
    ∃ W : Nat → Nat → L2.St → Hp → Prop, (∃ m, W 0 m σ H) ∧ ∀ i m σ H, W i m σ H →
      (J.stop i H ∧ D.nx σ H) ∨ (J.go i H ∧ ∃ N : L2.St → Hp → Prop, (∀ σ' H', N σ' H' → ∃ m', m' < m ∧ W (i + 1) m' σ' H') ∧ ∀ x H', J.yld i H x H' → gName ix x σ H' fun σ2 H2 => wSs X body { D with nx := N, ct := N, bk := D.nx } σ2 H2) := by
  refine for_it w (g := gName ix) (tb := wSs X body) (fun i σ H => ∃ s, Fr X.K Hs H σ (mkS s) ∧ PostS X W xv k Hs D mkS lk (forL b (ds.drop i) s : Out β S)) ⟨s0, hF, q⟩ ?_ ?_ ?_
  · rintro i σ H _ ⟨s, f, _⟩
    exact hG H f.same
  · rintro i x σ H H' hi ⟨s, f, p⟩ y
    obtain ⟨e, hx⟩ := hY i H x H' f.same y
    subst e
    have hi' : i < ds.length := by rw [← hn]; exact hi
    rw [List.drop_eq_getElem_cons hi', forL_cons] at p
    have rx := hx _ (List.getElem?_eq_getElem hi')
    have f' : Fr X.K Hs H' (σ.set ix (some x)) ((mkS s).set ix (.S 0 ds[i])) := by
      obtain ⟨Hs', F, y⟩ := f
      have z : Fr X.K Hs H' (some x :: σ) (.S 0 ds[i] :: mkS s) := ⟨Hs', F, y.low, y.up, ⟨x, σ, [], F, rfl, ⟨Rep.mono y.low _ _ rx, rfl⟩, y.cls, rfl⟩, y.nd, y.fresh⟩
      exact z.store (hix s)
    refine hb ds[i] s Hs _ H' _ f' ?_
    cases eb : b ds[i] s with
    | nx s' => rw [eb] at p; exact fun σ' H' f => ⟨s', f, p⟩
    | ct s' => rw [eb] at p; exact fun σ' H' f => ⟨s', f, p⟩
    | bk s' => rw [eb] at p; exact fun σ' H' f => p σ' H' f
    | rt d => rw [eb] at p; exact p
    | exc m => rw [eb] at p; exact p
    | err => rw [eb] at p; exact p
  · rintro σ H ⟨s, f, p⟩
    rw [hn, List.drop_length] at p
    exact p σ H f
def seqD : Sw.D → Rs (List Sw.D)
  | .lst ds => .nx ds
  | _ => .err
@[simp] theorem seqD_lst (ds : List Sw.D) : seqD (.lst ds) = .nx ds := id rfl
/-- for x in e -/
theorem ex_for {n : Nat} {iter : Expr} {x : Str} {p : Pos} {body : List Stmt} {oi : Rs Sw.D} {s0 : S} {b : Sw.D → S → Out S S} {g : S → Out β α} {mkS : S → List Slot} (ix : Nat) (hit : EvM X W n iter env env' oi) (hw : Wk env' (mkS s0))
    (hb : ∀ d s, Ex X W xv k body ((mkS s).set ix (.S 0 d)) (b d s) mkS mkS) (hr : ∀ s, Ex X W xv k rest (mkS s) (g s) mk lk) (hix : ∀ s, ix < (mkS s).length)
    (hpo : PassesOwn (model X.prog X.w) X.A X.env X.xe) (hg : PG X (.Name x p) (gName ix)) (hcalm : X.calm = true := by rfl) (hx : XOk env xv := by first | exact Or.inl rfl | exact Or.inr (by repeat (first | exact Wk.nil | refine Wk.keep ?_ | refine Wk.drop ?_))) (hfs : ∀ y, foldedSetIterable iter X.env y = pure y := by intro _; rfl) :
    Ex X W xv k (.For (.Name x p) iter body [] pos :: rest) env ((oi.to fun d => (seqD d).to fun ds => forL b ds s0).bind g) mk lk := fun H0 σ H D hF q => by
  refine wSs.cons (ps_for hpo hcalm (pi_list (wE.pe X iter)) hg (wSs.pss X body) hfs) ?_
  show wE X iter σ H _
  have q' : PostS X W xv k H0 { D with nx := wSs X rest D } mkS lk (oi.to fun d => (seqD d).to fun ds => forL b ds s0) := q.first (fun s p σ' H' f => hr s H0 σ' H' D f p) rfl rfl rfl
  refine hit.first hF hx q' fun d v H1 s1 f1 q1 => ?_
  cases d with
  | lst ds =>
    have q1 : PostS X W xv k H0 { D with nx := wSs X rest D } mkS lk (forL b ds s0 : Out β S) := q1
    have f2 := f1.freeze (i := 0) (n := n) (d := .lst ds) rfl
    obtain ⟨Hs, F, y⟩ := f2
    obtain ⟨v', σ', F1, F2, e, ⟨r, eF1⟩, cl, eF⟩ := y.cls
    cases e
    subst eF1
    unfold Rep at r
    obtain ⟨a, vs, e, ha, ru⟩ := r
    have hFs : Fr X.K Hs H1 σ (mkS s0) := Fr.wk ⟨Hs, F2, Same.refl _, y.up, cl, by simpa [eF] using y.nd, fun t m => y.fresh t (by rw [eF]; simpa using m)⟩ hw
    refine ⟨a, e, ⟨vs, SqL.of (y.up _ _ ha)⟩, ?_⟩
    exact for_core (walk_list (K := X.K) (a := a) (xs := vs)) ru.len (fun H sm => SqL.of (sm _ _ ha)) (fun i H z H' sm yy => ⟨yy.1, fun d hd => by
      obtain ⟨u, hu, rr⟩ := ru.get hd
      have := yy.2
      rw [this] at hu
      cases hu
      exact rr⟩) hix hb hFs (q1.base y.low)
  | _ => exact q1.elim
/-- for x in reversed(e) -/
def revSeqD : Sw.D → Rs (List Sw.D)
  | .lst ds => .nx ds.reverse
  | _ => .err
@[simp] theorem revSeqD_lst (ds : List Sw.D) : revSeqD (.lst ds) = .nx ds.reverse := id rfl
theorem ex_forV {n : Nat} {iter : Expr} {x : Str} {p p2 p3 : Pos} {body : List Stmt} {oi : Rs Sw.D} {s0 : S} {b : Sw.D → S → Out S S} {g : S → Out β α} {mkS : S → List Slot} (ix : Nat) (hm : X.mg "reversed" = none) (hit : EvM X W n iter env env' oi) (hw : Wk env' (mkS s0))
    (hb : ∀ d s, Ex X W xv k body ((mkS s).set ix (.S 0 d)) (b d s) mkS mkS) (hr : ∀ s, Ex X W xv k rest (mkS s) (g s) mk lk) (hix : ∀ s, ix < (mkS s).length)
    (hpo : PassesOwn (model X.prog X.w) X.A X.env X.xe) (hg : PG X (.Name x p) (gName ix)) (hgr : Gl X "reversed" := by rfl) (hcalm : X.calm = true := by rfl) (hx : XOk env xv := by first | exact Or.inl rfl | exact Or.inr (by repeat (first | exact Wk.nil | refine Wk.keep ?_ | refine Wk.drop ?_))) (hs1 : starEach [iter] X.env = (false, eval iter X.env) :: starEach [] X.env := by rfl) (hfs : ∀ y, foldedSetIterable (.Call (.Name "reversed" p2) [iter] [] p3) X.env y = pure y := by intro _; rfl) :
    Ex X W xv k (.For (.Name x p) (.Call (.Name "reversed" p2) [iter] [] p3) body [] pos :: rest) env ((oi.to fun d => (revSeqD d).to fun ds => forL b ds s0).bind g) mk lk := fun H0 σ H D hF q => by
  refine wSs.cons (ps_for hpo hcalm (RT.pi_revA hgr hm (wE.pe X iter) hs1) hg (wSs.pss X body) hfs) ?_
  show wE X iter σ H _
  have q' : PostS X W xv k H0 { D with nx := wSs X rest D } mkS lk (oi.to fun d => (revSeqD d).to fun ds => forL b ds s0) := q.first (fun s p σ' H' f => hr s H0 σ' H' D f p) rfl rfl rfl
  refine hit.first hF hx q' fun d v H1 s1 f1 q1 => ?_
  cases d with
  | lst ds =>
    have q1 : PostS X W xv k H0 { D with nx := wSs X rest D } mkS lk (forL b ds.reverse s0 : Out β S) := q1
    have f2 := f1.freeze (i := 0) (n := n) (d := .lst ds) rfl
    obtain ⟨Hs, F, y⟩ := f2
    obtain ⟨v', σ', F1, F2, e, ⟨r, eF1⟩, cl, eF⟩ := y.cls
    cases e
    subst eF1
    unfold Rep at r
    obtain ⟨a, vs, e, ha, ru⟩ := r
    have hFs : Fr X.K Hs H1 σ (mkS s0) := Fr.wk ⟨Hs, F2, Same.refl _, y.up, cl, by simpa [eF] using y.nd, fun t m => y.fresh t (by rw [eF]; simpa using m)⟩ hw
    refine ⟨a, vs, e, .inl ⟨SqL.of (y.up _ _ ha), ?_⟩⟩
    have hl := ru.len
    exact for_core (walk_rev (K := X.K) (a := a) (xs := vs)) (by rw [List.length_reverse]; exact hl) (fun H sm => SqL.of (sm _ _ ha)) (fun i H z H' sm yy => ⟨yy.1, fun d hd => by
      have hi : i < ds.length := by
        have := (List.getElem?_eq_some_iff.mp hd).1
        simpa using this
      rw [List.getElem?_reverse hi] at hd
      obtain ⟨u, hu, rr⟩ := ru.get hd
      have e2 := yy.2
      rw [hl, hu] at e2
      cases e2
      exact rr⟩) hix hb hFs (q1.base y.low)
  | _ => exact q1.elim
/-- for x in range(..) -/
def rngD1 : List Sw.D → Rs (List Sw.D)
  | [.int j] => if -(2 ^ 62) ≤ j ∧ j < 2 ^ 62 then .nx (upto j.toNat) else .err
  | _ => .err
def rngD2 : List Sw.D → Rs (List Sw.D)
  | [.int i, .int j] => if -(2 ^ 62) ≤ i ∧ i < 2 ^ 62 ∧ -(2 ^ 62) ≤ j ∧ j < 2 ^ 62 then .nx ((List.range (j - i).toNat).map fun (t : Nat) => Sw.D.int (i + t)) else .err
  | _ => .err
def rngD3 : List Sw.D → Rs (List Sw.D)
  | [.int i, .int j, .int c] => if c = -1 ∧ -(2 ^ 62) ≤ i ∧ i < 2 ^ 62 ∧ -(2 ^ 62) ≤ j ∧ j < 2 ^ 62 then .nx ((List.range (i - j).toNat).map fun (t : Nat) => Sw.D.int (i - t)) else .err
  | _ => .err
theorem map_range_get {m t : Nat} {f : Nat → Sw.D} {d : Sw.D} (hd : ((List.range m).map f)[t]? = some d) : d = f t := by
  rw [List.getElem?_map] at hd
  cases et : (List.range m)[t]? with
  | none => rw [et] at hd; cases hd
  | some u =>
    rw [et] at hd
    cases hd
    obtain ⟨ht, et⟩ := List.getElem?_eq_some_iff.mp et
    rw [List.getElem_range] at et
    rw [et]
theorem rngD1_no : ∀ as m, rngD1 as ≠ .exc m := fun as m z => by
  unfold rngD1 at z
  split at z
  · split at z <;> cases z
  · cases z
theorem rngD2_no : ∀ as m, rngD2 as ≠ .exc m := fun as m z => by
  unfold rngD2 at z
  split at z
  · split at z <;> cases z
  · cases z
theorem rngD3_no : ∀ as m, rngD3 as ≠ .exc m := fun as m z => by
  unfold rngD3 at z
  split at z
  · split at z <;> cases z
  · cases z
theorem rngD1_nx {as ds : List Sw.D} (z : rngD1 as = .nx ds) : ∃ j : Int, as = [.int j] ∧ (-(2 ^ 62) ≤ j ∧ j < 2 ^ 62) ∧ ds = upto j.toNat := by
  unfold rngD1 at z
  split at z
  · rename_i j
    split at z
    · rename_i h
      cases z
      exact ⟨j, rfl, h, rfl⟩
    · cases z
  · cases z
theorem rngD2_nx {as ds : List Sw.D} (z : rngD2 as = .nx ds) : ∃ i j : Int, as = [.int i, .int j] ∧ (-(2 ^ 62) ≤ i ∧ i < 2 ^ 62 ∧ -(2 ^ 62) ≤ j ∧ j < 2 ^ 62) ∧ ds = (List.range (j - i).toNat).map fun (t : Nat) => Sw.D.int (i + t) := by
  unfold rngD2 at z
  split at z
  · rename_i i j
    split at z
    · rename_i h
      cases z
      exact ⟨i, j, rfl, h, rfl⟩
    · cases z
  · cases z
theorem rngD3_nx {as ds : List Sw.D} (z : rngD3 as = .nx ds) : ∃ i j : Int, as = [.int i, .int j, .int (-1)] ∧ (-(2 ^ 62) ≤ i ∧ i < 2 ^ 62 ∧ -(2 ^ 62) ≤ j ∧ j < 2 ^ 62) ∧ ds = (List.range (i - j).toNat).map fun (t : Nat) => Sw.D.int (i - t) := by
  unfold rngD3 at z
  split at z
  · rename_i i j c
    split at z
    · rename_i h
      cases z
      obtain ⟨h1, h2⟩ := h
      subst h1
      exact ⟨i, j, rfl, h2, rfl⟩
    · cases z
  · cases z
section
variable {x : Str} {p p1 p2 : Pos} {body : List Stmt} {oa : Rs (List Sw.D)} {s0 : S} {b : Sw.D → S → Out S S} {g : S → Out β α} {mkS : S → List Slot} {ea eb ec : Expr}
theorem ex_forR1 (ix : Nat) (hm : X.mg "range" = none) (ha : EvL X W .R [ea] (dat env) oa) (hw : Wk env (mkS s0))
    (hb : ∀ d s, Ex X W xv k body ((mkS s).set ix (.S 0 d)) (b d s) mkS mkS) (hr : ∀ s, Ex X W xv k rest (mkS s) (g s) mk lk) (hix : ∀ s, ix < (mkS s).length)
    (hpo : PassesOwn (model X.prog X.w) X.A X.env X.xe) (hg : PG X (.Name x p) (gName ix)) (hcalm : X.calm = true := by rfl) (hx : XOk env xv := by first | exact Or.inl rfl | exact Or.inr (by repeat (first | exact Wk.nil | refine Wk.keep ?_ | refine Wk.drop ?_))) (hgl : Gl X "range" := by rfl)
    (hs : starEach [ea] X.env = [(false, eval ea X.env)] := by rfl) (hfs : ∀ y, foldedSetIterable (.Call (.Name "range" p1) [ea] [] p2) X.env y = pure y := by intro _; rfl) :
    Ex X W xv k (.For (.Name x p) (.Call (.Name "range" p1) [ea] [] p2) body [] pos :: rest) env ((oa.to fun as => (rngD1 as).to fun ds => forL b ds s0).bind g) mk lk := fun H0 σ H D hF q => by
  refine wSs.cons (ps_for hpo hcalm (pi_range1 hgl hm (wA.pa X [ea]) hs) hg (wSs.pss X body) hfs) ?_
  show wA X [ea] σ H _
  have q' : PostS X W xv k H0 { D with nx := wSs X rest D } mkS lk (oa.to fun as => (rngD1 as).to fun ds => forL b ds s0) := q.first (fun s p σ' H' f => hr s H0 σ' H' D f p) rfl rfl rfl
  refine ha.first hF hx q' fun as vs H1 s1 ra q1 => ?_
  have ra : RepL X.K H1 as vs := ra
  obtain ⟨Hs, F, y⟩ := (hF.grow s1).wk hw
  obtain ⟨ds, ed, q2⟩ := q1.got (rngD1_no as)
  obtain ⟨j, ea', hbd, eds⟩ := rngD1_nx ed
  subst ea' eds
  obtain ⟨v, e, rv⟩ := repL1 ra
  unfold Rep at rv
  refine ⟨j, by rw [e, rv], hbd.1, hbd.2, ?_⟩
  exact for_core (walk_range (lo := 0) (n := j.toNat)) (by simp [upto]) (Hs := Hs) (fun _ _ => trivial) (fun i H z H' sm yy => ⟨yy.1, fun d hd => by
    rw [map_range_get hd]
    unfold Rep
    rw [yy.2]
    simp⟩) hix hb ⟨Hs, F, Same.refl _, y.up, y.cls, y.nd, y.fresh⟩ (q2.base y.low)
theorem ex_forR2 (ix : Nat) (hm : X.mg "range" = none) (ha : EvL X W .R [ea, eb] (dat env) oa) (hw : Wk env (mkS s0))
    (hb : ∀ d s, Ex X W xv k body ((mkS s).set ix (.S 0 d)) (b d s) mkS mkS) (hr : ∀ s, Ex X W xv k rest (mkS s) (g s) mk lk) (hix : ∀ s, ix < (mkS s).length)
    (hpo : PassesOwn (model X.prog X.w) X.A X.env X.xe) (hg : PG X (.Name x p) (gName ix)) (hcalm : X.calm = true := by rfl) (hx : XOk env xv := by first | exact Or.inl rfl | exact Or.inr (by repeat (first | exact Wk.nil | refine Wk.keep ?_ | refine Wk.drop ?_))) (hgl : Gl X "range" := by rfl)
    (hs : starEach [ea, eb] X.env = [(false, eval ea X.env), (false, eval eb X.env)] := by rfl) (hs2 : starEach [eb] X.env = [(false, eval eb X.env)] := by rfl) (hfs : ∀ y, foldedSetIterable (.Call (.Name "range" p1) [ea, eb] [] p2) X.env y = pure y := by intro _; rfl) :
    Ex X W xv k (.For (.Name x p) (.Call (.Name "range" p1) [ea, eb] [] p2) body [] pos :: rest) env ((oa.to fun as => (rngD2 as).to fun ds => forL b ds s0).bind g) mk lk := fun H0 σ H D hF q => by
  refine wSs.cons (ps_for hpo hcalm (pi_range2 hgl hm (wA.pa X [ea, eb]) hs hs2) hg (wSs.pss X body) hfs) ?_
  show wA X [ea, eb] σ H _
  have q' : PostS X W xv k H0 { D with nx := wSs X rest D } mkS lk (oa.to fun as => (rngD2 as).to fun ds => forL b ds s0) := q.first (fun s p σ' H' f => hr s H0 σ' H' D f p) rfl rfl rfl
  refine ha.first hF hx q' fun as vs H1 s1 ra q1 => ?_
  have ra : RepL X.K H1 as vs := ra
  obtain ⟨Hs, F, y⟩ := (hF.grow s1).wk hw
  obtain ⟨ds, ed, q2⟩ := q1.got (rngD2_no as)
  obtain ⟨i, j, ea', hbd, eds⟩ := rngD2_nx ed
  subst ea' eds
  obtain ⟨v, w, e, rv, rw'⟩ := repL2 ra
  unfold Rep at rv rw'
  refine ⟨i, j, by rw [e, rv, rw'], hbd, ?_⟩
  exact for_core (walk_range (lo := i) (n := (j - i).toNat)) (by simp) (Hs := Hs) (fun _ _ => trivial) (fun i H z H' sm yy => ⟨yy.1, fun d hd => by
    rw [map_range_get hd]
    unfold Rep
    rw [yy.2]⟩) hix hb ⟨Hs, F, Same.refl _, y.up, y.cls, y.nd, y.fresh⟩ (q2.base y.low)
theorem ex_forR3 (ix : Nat) (hm : X.mg "range" = none) (ha : EvL X W .R [ea, eb, ec] (dat env) oa) (hw : Wk env (mkS s0))
    (hb : ∀ d s, Ex X W xv k body ((mkS s).set ix (.S 0 d)) (b d s) mkS mkS) (hr : ∀ s, Ex X W xv k rest (mkS s) (g s) mk lk) (hix : ∀ s, ix < (mkS s).length)
    (hpo : PassesOwn (model X.prog X.w) X.A X.env X.xe) (hg : PG X (.Name x p) (gName ix)) (hcalm : X.calm = true := by rfl) (hx : XOk env xv := by first | exact Or.inl rfl | exact Or.inr (by repeat (first | exact Wk.nil | refine Wk.keep ?_ | refine Wk.drop ?_))) (hgl : Gl X "range" := by rfl)
    (hs : starEach [ea, eb, ec] X.env = (false, eval ea X.env) :: starEach [eb, ec] X.env := by rfl) (hs2 : (backTo p2 (starEach [eb, ec] X.env)).any (·.1) = false := by rfl) (hfs : ∀ y, foldedSetIterable (.Call (.Name "range" p1) [ea, eb, ec] [] p2) X.env y = pure y := by intro _; rfl) :
    Ex X W xv k (.For (.Name x p) (.Call (.Name "range" p1) [ea, eb, ec] [] p2) body [] pos :: rest) env ((oa.to fun as => (rngD3 as).to fun ds => forL b ds s0).bind g) mk lk := fun H0 σ H D hF q => by
  refine wSs.cons (ps_for hpo hcalm (pi_range3 hgl hm (wA.pa X [ea, eb, ec]) hs hs2) hg (wSs.pss X body) hfs) ?_
  show wA X [ea, eb, ec] σ H _
  have q' : PostS X W xv k H0 { D with nx := wSs X rest D } mkS lk (oa.to fun as => (rngD3 as).to fun ds => forL b ds s0) := q.first (fun s p σ' H' f => hr s H0 σ' H' D f p) rfl rfl rfl
  refine ha.first hF hx q' fun as vs H1 s1 ra q1 => ?_
  have ra : RepL X.K H1 as vs := ra
  obtain ⟨Hs, F, y⟩ := (hF.grow s1).wk hw
  obtain ⟨ds, ed, q2⟩ := q1.got (rngD3_no as)
  obtain ⟨i, j, ea', hbd, eds⟩ := rngD3_nx ed
  subst ea' eds
  unfold RepL at ra
  obtain ⟨v, vs', e, rv, ra'⟩ := ra
  obtain ⟨w, u, e2, rw', ru⟩ := repL2 ra'
  unfold Rep at rv rw' ru
  obtain ⟨b1, b2, b3, b4⟩ := hbd
  refine ⟨i, j, -1, (i - j).toNat, by rw [e, e2, rv, rw', ru], RgC.neg b1 b2 b3 b4, ?_⟩
  exact for_core (walk_rangeC (lo := i) (c := -1) (n := (i - j).toNat)) (by simp) (Hs := Hs) (fun _ _ => trivial) (fun t H z H' sm yy => ⟨yy.1, fun d hd => by
    have e3 : i + (t : Nat) * (-1) = i - (t : Nat) := by omega
    rw [map_range_get hd, yy.2]
    show Rep X.K Hs (.int (i - (t : Nat))) (V.int (i + (t : Nat) * (-1)))
    rw [e3]
    unfold Rep
    rfl⟩) hix hb ⟨Hs, F, Same.refl _, y.up, y.cls, y.nd, y.fresh⟩ (q2.base y.low)
end
/-- the turns of a while; fuel bounds them -/
def whileF {β S : Type} (c : S → Rs Bool) (b : S → Out S S) : Nat → S → Out β S
  | 0, _ => .err
  | n + 1, s => (c s).to fun t => if t = true then (match b s with
    | .nx s' => whileF c b n s'
    | .ct s' => whileF c b n s'
    | .bk s' => .nx s'
    | .rt d => .rt d
    | .exc m => .exc m
    | .err => .err) else .nx s
theorem whileF_succ {c : S → Rs Bool} {b : S → Out S S} (n : Nat) (s : S) : (whileF c b (n + 1) s : Out β S) = (c s).to fun t => if t = true then (match b s with
    | .nx s' => whileF c b n s'
    | .ct s' => whileF c b n s'
    | .bk s' => .nx s'
    | .rt d => .rt d
    | .exc m => .exc m
    | .err => .err) else .nx s := rfl
theorem ex_while {c : Expr} {body : List Stmt} {fuel : Nat} {s0 : S} {oc : S → Rs Bool} {b : S → Out S S} {g : S → Out β α} {mkS : S → List Slot} (hw : Wk env (mkS s0)) (hc : ∀ s, EvT X W c (dat (mkS s)) (oc s))
    (hb : ∀ s, Ex X W xv k body (mkS s) (b s) mkS mkS) (hr : ∀ s, Ex X W xv k rest (mkS s) (g s) mk lk) (hpo : PassesOwn (model X.prog X.w) X.A X.env X.xe) (hx : ∀ s, XOk (mkS s) xv := by exact fun _ => Or.inl rfl) :
    Ex X W xv k (.While c body [] pos :: rest) env ((whileF oc b fuel s0).bind g) mk lk := fun H0 σ H D hF q => by
  refine wSs.cons (ps_while hpo (wT.pt X c) (wSs.pss X body)) ?_
  have q' : PostS X W xv k H0 { D with nx := wSs X rest D } mkS lk (whileF oc b fuel s0 : Out β S) := q.first (fun s p σ' H' f => hr s H0 σ' H' D f p) rfl rfl rfl
  refine ⟨fun m σ H => ∃ s, Fr X.K H0 H σ (mkS s) ∧ PostS X W xv k H0 { D with nx := wSs X rest D } mkS lk (whileF oc b m s : Out β S), ⟨fuel, s0, hF.wk hw, q'⟩, ?_⟩
  rintro m σ H ⟨s, f, p⟩
  cases m with
  | zero => exact p.elim
  | succ m =>
    rw [whileF_succ] at p
    show wT X c σ H _
    refine (hc s).first f (hx s) p fun t H' sm p1 => ?_
    cases t with
    | true =>
      refine if_pos rfl ▸ ?_
      simp only [if_true] at p1
      refine ⟨fun σ' H' => ∃ s', Fr X.K H0 H' σ' (mkS s') ∧ PostS X W xv k H0 { D with nx := wSs X rest D } mkS lk (whileF oc b m s' : Out β S), fun σ' H' hh => ⟨m, Nat.lt_succ_self m, hh⟩, ?_⟩
      refine hb s H0 σ H' _ (f.grow sm) ?_
      cases eb : b s with
      | nx s' => rw [eb] at p1; exact fun σ' H' f => ⟨s', f, p1⟩
      | ct s' => rw [eb] at p1; exact fun σ' H' f => ⟨s', f, p1⟩
      | bk s' => rw [eb] at p1; exact fun σ' H' f => p1 σ' H' f
      | rt d => rw [eb] at p1; exact p1
      | exc m => rw [eb] at p1; exact p1
      | err => rw [eb] at p1; exact p1
    | false =>
      refine (if_neg Bool.false_ne_true) ▸ ?_
      simp only [if_neg Bool.false_ne_true] at p1
      exact (p1 : ∀ σ' H', _) σ H' (f.grow sm)
end
/-! ### a def -/
def slots0 (m : Nat) (ds : List D) : List Slot := ds.map (Slot.S 0) ++ List.replicate (m - ds.length) .J
theorem cls_start {K : PySem.W.Frag} {H : Hp} : ∀ {ds : List D} {vs : List V} {m : Nat}, RepL K H ds vs → Cls K H H (vs.map some ++ List.replicate m none) (ds.map (Slot.S 0) ++ List.replicate m .J) []
  | [], vs, m, h => by
    unfold RepL at h
    subst h
    show Cls K H H (List.replicate m none) (List.replicate m .J) []
    induction m with
    | zero => exact ⟨rfl, rfl⟩
    | succ m ih => exact ⟨none, List.replicate m none, rfl, ih⟩
  | d :: ds, vs, m, h => by
    unfold RepL at h
    obtain ⟨v, vs', e, r1, r2⟩ := h
    subst e
    exact ⟨v, vs'.map some ++ List.replicate m none, [], [], rfl, ⟨r1, rfl⟩, cls_start r2, rfl⟩
theorem fr_start {K : PySem.W.Frag} {H : Hp} {N : List Str} {ds : List D} {vs : List V} (h : RepL K H ds vs) : Fr K H H (L2.start N vs) (slots0 N.length ds) := by
  refine ⟨H, [], Same.refl _, Same.refl _, ?_, List.nodup_nil, fun _ m => by cases m⟩
  unfold L2.start slots0
  rw [h.len]
  exact cls_start h
def mkU (l : List Slot) (_ : Unit) : List Slot := l
section
variable {P : Program} {w : World} {K : PySem.W.Frag} {mg : Str → Option Value} {base : Heap}
/-- a def from which no exception leaves -/
theorem def_ok {x qual : Str} {st : Stmt} {f : Addr} {fd : FuncData} {N ps : List Str} {kk : Nat} {k : Kd} {g : List D → Out Unit Unit} {el : List Slot} (F : Fun K x qual st f fd) (S : FnScope N ps (defScope st)) (ar : ∀ ds, g ds ≠ .err → ds.length = ps.length)
    (hbody : ∀ (cdv : Value) (A : Around) (outer : List Env) (s : Shared) (H : Hp) (E : XK) (ds : List D), Room kk (A.deeper (envOfC qual (defScope st) s.heap.objs.size f cdv)) → ds.length = ps.length →
      Ex (cxOf CX0 P w K mg base N qual (defScope st) f cdv A outer s H E).nox W0 [] k (defBody st) (slots0 N.length ds) (g ds) (fun _ : Unit => el) (fun _ : Unit => el)) : FnOk P w K mg base CX0 (kk + 1) f fd ps (spN K k g) := by
  refine F.ok S (fun vs H Q E h => spN_len ar h) fun cdv A outer s H vs Q E hr h => ?_
  have hl := spN_len ar h
  obtain ⟨ds, r, p⟩ := h
  refine ⟨_, wSs.pss _ (defBody st), ?_⟩
  refine hbody cdv A outer s H E ds hr (by rw [← r.len]; exact hl) H (L2.start N vs) H _ (fr_start r) ?_
  cases e : g ds with
  | nx u => rw [e] at p; exact fun σ' H' f => p H' f.same
  | rt d => rw [e] at p; exact p
  | bk u => rw [e] at p; exact p.elim
  | ct u => rw [e] at p; exact p.elim
  | exc m => rw [e] at p; exact p.elim
  | err => rw [e] at p; exact p.elim
/-- a def that may raise -/
theorem def_okX {x qual : Str} {st : Stmt} {f : Addr} {fd : FuncData} {N ps : List Str} {kk : Nat} {k : Kd} {g : List D → Out Unit Unit} {el : List Slot} (F : Fun K x qual st f fd) (S : FnScope N ps (defScope st)) (ar : ∀ ds, g ds ≠ .err → ds.length = ps.length)
    (hbody : ∀ (cdv : Value) (A : Around) (outer : List Env) (s : Shared) (H : Hp) (E : XK) (ds : List D), Room kk (A.deeper (envOfC qual (defScope st) s.heap.objs.size f cdv)) → ds.length = ps.length →
      Ex (cxOf (L2.CX P w) P w K mg base N qual (defScope st) f cdv A outer s H E) (fun c d _ H => E c d H) [] k (defBody st) (slots0 N.length ds) (g ds) (fun _ : Unit => el) (fun _ : Unit => el)) : FnOk P w K mg base (L2.CX P w) (kk + 1) f fd ps (spF K mg k g) := by
  refine F.okX S (fun vs H Q E h => spF_len ar h) fun cdv A outer s H vs Q E hr h => ?_
  have hl := spF_len ar h
  obtain ⟨ds, r, p⟩ := h
  refine ⟨_, wSs.pss _ (defBody st), ?_⟩
  refine hbody cdv A outer s H E ds hr (by rw [← r.len]; exact hl) H (L2.start N vs) H _ (fr_start r) ?_
  cases e : g ds with
  | nx u => rw [e] at p; exact fun σ' H' f => p H' f.same
  | rt d => rw [e] at p; exact p
  | bk u => rw [e] at p; exact p.elim
  | ct u => rw [e] at p; exact p.elim
  | exc m => rw [e] at p; exact fun C hC σ' H' sm _ => p C hC H' sm
  | err => rw [e] at p; exact p.elim
end
end Sw

/- part SwLib -/
/-! Short forms: calls by names, built-ins of few arguments. -/
namespace Sw
open PySem PySem.Spec PyProof.Rows L2
/-- the built-ins' names are not the module's -/
structure Bi (mg : Str → Option Value) : Prop where
  len : mg "len" = none
  range : mg "range" = none
  list : mg "list" = none
  min : mg "min" = none
  max : mg "max" = none
  sum : mg "sum" = none
  sorted : mg "sorted" = none
  isinstance : mg "isinstance" = none
  int : mg "int" = none
  bool : mg "bool" = none
  tuple : mg "tuple" = none
  set : mg "set" = none
  str : mg "str" = none
  reversed : mg "reversed" = none
  ValueError : mg "ValueError" = none
/-- the def x of the text, as it stands -/
def Has (K : PySem.W.Frag) (mg : Str → Option Value) (x qual : Str) (st : Stmt) (ps : List Str) : Prop := ∃ f fd, mg x = some (.ref f) ∧ Fun K x qual st f fd ∧ Binds K fd ps []
/-- the def x keeps the promise sp -/
def Does (P : Program) (w : World) (K : PySem.W.Frag) (mg : Str → Option Value) (base : Heap) (CX : CXT) (x : Str) (ps : List Str) (kk : Nat) (sp : Sp) : Prop :=
  ∃ f fd, mg x = some (.ref f) ∧ PySem.W.keepIn K (.ref f) = true ∧ Binds K fd ps [] ∧ FnOk P w K mg base CX kk f fd ps sp
section
variable {P : Program} {w : World} {K : PySem.W.Frag} {mg : Str → Option Value} {base : Heap}
theorem Has.ok {x qual : Str} {st : Stmt} {N ps : List Str} {kk : Nat} {k : Kd} {g : List D → Out Unit Unit} {el : List Slot} (h : Has K mg x qual st ps) (S : FnScope N ps (defScope st)) (ar : ∀ ds, g ds ≠ .err → ds.length = ps.length)
    (hbody : ∀ (f : Addr) (cdv : Value) (A : Around) (outer : List Env) (s : Shared) (H : Hp) (E : XK) (ds : List D), Room kk (A.deeper (envOfC qual (defScope st) s.heap.objs.size f cdv)) → ds.length = ps.length →
      Ex (cxOf CX0 P w K mg base N qual (defScope st) f cdv A outer s H E).nox W0 [] k (defBody st) (slots0 N.length ds) (g ds) (fun _ : Unit => el) (fun _ : Unit => el)) : Does P w K mg base CX0 x ps (kk + 1) (spN K k g) := by
  obtain ⟨f, fd, hm, F, b⟩ := h
  exact ⟨f, fd, hm, F.kp, b, def_ok F S ar (hbody f)⟩
theorem Has.okX {x qual : Str} {st : Stmt} {N ps : List Str} {kk : Nat} {k : Kd} {g : List D → Out Unit Unit} {el : List Slot} (h : Has K mg x qual st ps) (S : FnScope N ps (defScope st)) (ar : ∀ ds, g ds ≠ .err → ds.length = ps.length)
    (hbody : ∀ (f : Addr) (cdv : Value) (A : Around) (outer : List Env) (s : Shared) (H : Hp) (E : XK) (ds : List D), Room kk (A.deeper (envOfC qual (defScope st) s.heap.objs.size f cdv)) → ds.length = ps.length →
      Ex (cxOf (L2.CX P w) P w K mg base N qual (defScope st) f cdv A outer s H E) (fun c d _ H => E c d H) [] k (defBody st) (slots0 N.length ds) (g ds) (fun _ : Unit => el) (fun _ : Unit => el)) : Does P w K mg base (L2.CX P w) x ps (kk + 1) (spF K mg k g) := by
  obtain ⟨f, fd, hm, F, b⟩ := h
  exact ⟨f, fd, hm, F.kp, b, def_okX F S ar (hbody f)⟩
end
section
variable {X : Cx} {W : WX} {k : Kd} {ρ : List (Option D)} {a b c e : Expr} {pos : Pos} {oa ob oc : Rs D}
theorem evL1 (ha : Ev X W k a ρ oa) (hs : starEach (a :: []) X.env = (false, eval a X.env) :: starEach [] X.env := by rfl) : EvL X W k [a] ρ (oa.bind fun x => .nx [x]) := evL_cons ha evL_nil hs
theorem evL2 (ha : Ev X W k a ρ oa) (hb : Ev X W k b ρ ob) (hs : starEach (a :: [b]) X.env = (false, eval a X.env) :: starEach [b] X.env := by rfl) (hs2 : starEach (b :: []) X.env = (false, eval b X.env) :: starEach [] X.env := by rfl) :
    EvL X W k [a, b] ρ (oa.bind fun x => ob.bind fun y => .nx [x, y]) := by
  have h := evL_cons ha (evL1 hb hs2) hs
  have e : (oa.bind fun x => (ob.bind fun x => .nx [x]).bind fun xs => .nx (x :: xs)) = oa.bind fun x => ob.bind fun y => (.nx [x, y] : Rs (List D)) := by
    cases oa <;> cases ob <;> rfl
  rw [← e]
  exact h
theorem evL3 (ha : Ev X W k a ρ oa) (hb : Ev X W k b ρ ob) (hc : Ev X W k c ρ oc) (hs : starEach (a :: [b, c]) X.env = (false, eval a X.env) :: starEach [b, c] X.env := by rfl) (hs2 : starEach (b :: [c]) X.env = (false, eval b X.env) :: starEach [c] X.env := by rfl)
    (hs3 : starEach (c :: []) X.env = (false, eval c X.env) :: starEach [] X.env := by rfl) :
    EvL X W k [a, b, c] ρ (oa.bind fun x => ob.bind fun y => oc.bind fun z => .nx [x, y, z]) := by
  have h := evL_cons ha (evL2 hb hc hs2 hs3) hs
  have e : (oa.bind fun x => (ob.bind fun x => oc.bind fun y => .nx [x, y]).bind fun xs => .nx (x :: xs)) = oa.bind fun x => ob.bind fun y => oc.bind fun z => (.nx [x, y, z] : Rs (List D)) := by
    cases oa <;> cases ob <;> cases oc <;> rfl
  rw [← e]
  exact h
theorem Ev.eq {o o' : Rs D} (h : Ev X W k e ρ o) (q : o = o') : Ev X W k e ρ o' := q ▸ h
theorem bind_one {f : List D → Rs D} : ((oa.bind fun x => .nx [x]).bind f) = oa.bind fun x => f [x] := by cases oa <;> rfl
theorem bind_two {f : List D → Rs D} : ((oa.bind fun x => ob.bind fun y => .nx [x, y]).bind f) = oa.bind fun x => ob.bind fun y => f [x, y] := by cases oa <;> cases ob <;> rfl
theorem bind_three {f : List D → Rs D} : ((oa.bind fun x => ob.bind fun y => oc.bind fun z => .nx [x, y, z]).bind f) = oa.bind fun x => ob.bind fun y => oc.bind fun z => f [x, y, z] := by cases oa <;> cases ob <;> cases oc <;> rfl
section
variable {p : Pos} {n : Nat} (m : Bi X.mg) (ha : Ev X W .R a ρ oa) (hb : Ev X W .R b ρ ob)
theorem ev_len1 (m : Bi X.mg) (ha : Ev X W .R a ρ oa) (hg : Gl X "len" := by rfl) (hs : starEach (a :: []) X.env = (false, eval a X.env) :: starEach [] X.env := by rfl) (hpl : (backTo pos (starEach [] X.env)).any (·.1) = false := by rfl) :
    Ev X W k (.Call (.Name "len" p) [a] [] pos) ρ (oa.bind fun x => lenD [x]) := (ev_len m.len (evL1 ha hs) hg hs hpl).eq bind_one
theorem ev_list1 (m : Bi X.mg) (ha : Ev X W .R a ρ oa) (hg : Gl X "list" := by rfl) (hs : starEach (a :: []) X.env = (false, eval a X.env) :: starEach [] X.env := by rfl) (hpl : (backTo pos (starEach [] X.env)).any (·.1) = false := by rfl) :
    Ev X W (.O (n + 1)) (.Call (.Name "list" p) [a] [] pos) ρ (oa.bind fun x => listD [x]) := (ev_list m.list (evL1 ha hs) hg hs hpl).eq bind_one
theorem ev_sum1 (m : Bi X.mg) (ha : Ev X W .R a ρ oa) (hc : X.calm = true := by rfl) (hg : Gl X "sum" := by rfl) (hs : starEach (a :: []) X.env = (false, eval a X.env) :: starEach [] X.env := by rfl) (hpl : (backTo pos (starEach [] X.env)).any (·.1) = false := by rfl) :
    Ev X W k (.Call (.Name "sum" p) [a] [] pos) ρ (oa.bind fun x => sumD [x]) := (ev_sum m.sum (evL1 ha hs) hc hg hs hpl).eq bind_one
theorem ev_sorted1 (m : Bi X.mg) (ha : Ev X W .R a ρ oa) (hg : Gl X "sorted" := by rfl) (hs : starEach (a :: []) X.env = (false, eval a X.env) :: starEach [] X.env := by rfl) (hpl : (backTo pos (starEach [] X.env)).any (·.1) = false := by rfl) :
    Ev X W (.O (n + 1)) (.Call (.Name "sorted" p) [a] [] pos) ρ (oa.bind fun x => sortedD [x]) := (ev_sorted m.sorted (evL1 ha hs) hg hs hpl).eq bind_one
theorem ev_min1 (m : Bi X.mg) (ha : Ev X W .R a ρ oa) (hc : X.calm = true := by rfl) (hg : Gl X "min" := by rfl) (hs : starEach (a :: []) X.env = (false, eval a X.env) :: starEach [] X.env := by rfl) (hpl : (backTo pos (starEach [] X.env)).any (·.1) = false := by rfl) :
    Ev X W k (.Call (.Name "min" p) [a] [] pos) ρ (oa.bind fun x => minD [x]) := (ev_min m.min (evL1 ha hs) hc hg hs hpl).eq bind_one
theorem ev_max1 (m : Bi X.mg) (ha : Ev X W .R a ρ oa) (hc : X.calm = true := by rfl) (hg : Gl X "max" := by rfl) (hs : starEach (a :: []) X.env = (false, eval a X.env) :: starEach [] X.env := by rfl) (hpl : (backTo pos (starEach [] X.env)).any (·.1) = false := by rfl) :
    Ev X W k (.Call (.Name "max" p) [a] [] pos) ρ (oa.bind fun x => maxD [x]) := (ev_max m.max (evL1 ha hs) hc hg hs hpl).eq bind_one
theorem ev_min2 (m : Bi X.mg) (ha : Ev X W .R a ρ oa) (hb : Ev X W .R b ρ ob) (hc : X.calm = true := by rfl) (hg : Gl X "min" := by rfl) (hs : starEach (a :: [b]) X.env = (false, eval a X.env) :: starEach [b] X.env := by rfl) (hs2 : starEach (b :: []) X.env = (false, eval b X.env) :: starEach [] X.env := by rfl)
    (hpl : (backTo pos (starEach [b] X.env)).any (·.1) = false := by rfl) : Ev X W k (.Call (.Name "min" p) [a, b] [] pos) ρ (oa.bind fun x => ob.bind fun y => minD [x, y]) := (ev_min m.min (evL2 ha hb hs hs2) hc hg hs hpl).eq bind_two
theorem ev_max2 (m : Bi X.mg) (ha : Ev X W .R a ρ oa) (hb : Ev X W .R b ρ ob) (hc : X.calm = true := by rfl) (hg : Gl X "max" := by rfl) (hs : starEach (a :: [b]) X.env = (false, eval a X.env) :: starEach [b] X.env := by rfl) (hs2 : starEach (b :: []) X.env = (false, eval b X.env) :: starEach [] X.env := by rfl)
    (hpl : (backTo pos (starEach [b] X.env)).any (·.1) = false := by rfl) : Ev X W k (.Call (.Name "max" p) [a, b] [] pos) ρ (oa.bind fun x => ob.bind fun y => maxD [x, y]) := (ev_max m.max (evL2 ha hb hs hs2) hc hg hs hpl).eq bind_two
end
theorem cmp_lt : CmpO X (rI0 fun i j => .bl (decide (i < j))) ltO := cmp_int
theorem cmp_le : CmpO X (rI0 fun i j => .bl (decide (i ≤ j))) leO := cmp_int
theorem cmp_gt : CmpO X (rI0 fun i j => .bl (decide (j < i))) gtO := cmp_int
theorem cmp_ge : CmpO X (rI0 fun i j => .bl (decide (j ≤ i))) geO := cmp_int
theorem hu65 {j : Nat} {A : Around} (r : Room j A) : A.units + 65 < cLine := by have := r.un; omega
section
variable {es : List Expr} {n x1 : Nat} {o : Rs (List D)}
theorem ev_lstO (h : EvL X W (.O n) es ρ o) : Ev X W (.O (n + 1)) (.List es pos) ρ (o.bind lstD) := ev_lst h
theorem ev_lstR (h : EvL X W .R es ρ o) : Ev X W .R (.List es pos) ρ (o.bind lstD) := ev_lst h
theorem ev_tupO (h : EvL X W (.O n) es ρ o) : Ev X W (.O (n + 1)) (.Tuple es x1 pos) ρ (o.bind tupD) := ev_tup h
theorem ev_tupR (h : EvL X W .R es ρ o) : Ev X W .R (.Tuple es x1 pos) ρ (o.bind tupD) := ev_tup h
end
/-! ### calls by name -/
theorem Ev.toR1 {X : Cx} {W : WX} {e : Expr} {ρ : List (Option D)} {o : Rs D} (h : Ev X W (.O 1) e ρ o) : Ev X W .R e ρ o := h.toR
def fn4 (g : D → D → D → D → Out Unit Unit) : List D → Out Unit Unit
  | [a, b, c, d] => g a b c d
  | _ => .err
theorem ar4 {g : D → D → D → D → Out Unit Unit} : ∀ ds, fn4 g ds ≠ .err → ds.length = 4 := fun ds h => by
  unfold fn4 at h
  split at h
  · rfl
  · exact absurd rfl h

section
variable {x : Str} {p : Pos} {ps : List Str} {kk j : Nat}
theorem call1 {g : D → Out Unit Unit} (h : Does X.prog X.w X.K X.mg X.base CX0 x ps kk (spN X.K k (fn1 g))) (hr : Room j X.A) (ha : Ev X W .R a ρ oa) (hj : kk ≤ j := by decide) (hg : Gl X x := by rfl) (hdb : (x == ("__debug__" : Str)) = false := by decide)
    (hs : starEach (a :: []) X.env = (false, eval a X.env) :: starEach [] X.env := by rfl) (hpl : (backTo pos (starEach [] X.env)).any (·.1) = false := by rfl) : Ev X W k (.Call (.Name x p) [a] [] pos) ρ (oa.bind fun x => callN (g x)) := by
  obtain ⟨f, fd, hm, hk, hb, F⟩ := h
  exact (ev_call0 F (hr.mono hj) hm hk hb (evL1 ha hs) hg hdb hs hpl).eq bind_one
theorem call2 {g : D → D → Out Unit Unit} (h : Does X.prog X.w X.K X.mg X.base CX0 x ps kk (spN X.K k (fn2 g))) (hr : Room j X.A) (ha : Ev X W .R a ρ oa) (hb : Ev X W .R b ρ ob) (hj : kk ≤ j := by decide) (hg : Gl X x := by rfl) (hdb : (x == ("__debug__" : Str)) = false := by decide)
    (hs : starEach (a :: [b]) X.env = (false, eval a X.env) :: starEach [b] X.env := by rfl) (hs2 : starEach (b :: []) X.env = (false, eval b X.env) :: starEach [] X.env := by rfl) (hpl : (backTo pos (starEach [b] X.env)).any (·.1) = false := by rfl) :
    Ev X W k (.Call (.Name x p) [a, b] [] pos) ρ (oa.bind fun x => ob.bind fun y => callN (g x y)) := by
  obtain ⟨f, fd, hm, hk, hbd, F⟩ := h
  exact (ev_call0 F (hr.mono hj) hm hk hbd (evL2 ha hb hs hs2) hg hdb hs hpl).eq bind_two
theorem call3 {g : D → D → D → Out Unit Unit} (h : Does X.prog X.w X.K X.mg X.base CX0 x ps kk (spN X.K k (fn3 g))) (hr : Room j X.A) (ha : Ev X W .R a ρ oa) (hb : Ev X W .R b ρ ob) (hc : Ev X W .R c ρ oc) (hj : kk ≤ j := by decide) (hg : Gl X x := by rfl) (hdb : (x == ("__debug__" : Str)) = false := by decide)
    (hs : starEach (a :: [b, c]) X.env = (false, eval a X.env) :: starEach [b, c] X.env := by rfl) (hs2 : starEach (b :: [c]) X.env = (false, eval b X.env) :: starEach [c] X.env := by rfl) (hs3 : starEach (c :: []) X.env = (false, eval c X.env) :: starEach [] X.env := by rfl)
    (hpl : (backTo pos (starEach [b, c] X.env)).any (·.1) = false := by rfl) :
    Ev X W k (.Call (.Name x p) [a, b, c] [] pos) ρ (oa.bind fun x => ob.bind fun y => oc.bind fun z => callN (g x y z)) := by
  obtain ⟨f, fd, hm, hk, hbd, F⟩ := h
  exact (ev_call0 F (hr.mono hj) hm hk hbd (evL3 ha hb hc hs hs2 hs3) hg hdb hs hpl).eq bind_three
theorem call4 {d : Expr} {od : Rs D} {g : D → D → D → D → Out Unit Unit} (h : Does X.prog X.w X.K X.mg X.base CX0 x ps kk (spN X.K k (fn4 g))) (hr : Room j X.A) (ha : Ev X W .R a ρ oa) (hb : Ev X W .R b ρ ob) (hc : Ev X W .R c ρ oc) (hd : Ev X W .R d ρ od) (hj : kk ≤ j := by decide) (hg : Gl X x := by rfl) (hdb : (x == ("__debug__" : Str)) = false := by decide)
    (hs : starEach (a :: [b, c, d]) X.env = (false, eval a X.env) :: starEach [b, c, d] X.env := by rfl) (hs2 : starEach (b :: [c, d]) X.env = (false, eval b X.env) :: starEach [c, d] X.env := by rfl) (hs3 : starEach (c :: [d]) X.env = (false, eval c X.env) :: starEach [d] X.env := by rfl) (hs4 : starEach (d :: []) X.env = (false, eval d X.env) :: starEach [] X.env := by rfl)
    (hpl : (backTo pos (starEach [b, c, d] X.env)).any (·.1) = false := by rfl) :
    Ev X W k (.Call (.Name x p) [a, b, c, d] [] pos) ρ (oa.bind fun x => ob.bind fun y => oc.bind fun z => od.bind fun u => callN (g x y z u)) := by
  obtain ⟨f, fd, hm, hk, hbd, F⟩ := h
  exact (ev_call0 F (hr.mono hj) hm hk hbd (evL_cons ha (evL3 hb hc hd hs2 hs3 hs4) hs) hg hdb hs hpl).eq (by cases oa <;> cases ob <;> cases oc <;> cases od <;> rfl)
theorem callX1 {g : D → Out Unit Unit} (h : Does X.prog X.w X.K X.mg X.base (L2.CX X.prog X.w) x ps kk (spF X.K X.mg k (fn1 g))) (tk : Takes X W) (hr : Room j X.A) (ha : Ev X W .R a ρ oa) (hj : kk ≤ j := by decide) (hg : Gl X x := by rfl) (hdb : (x == ("__debug__" : Str)) = false := by decide)
    (hs : starEach (a :: []) X.env = (false, eval a X.env) :: starEach [] X.env := by rfl) (hpl : (backTo pos (starEach [] X.env)).any (·.1) = false := by rfl) : Ev X W k (.Call (.Name x p) [a] [] pos) ρ (oa.bind fun x => callX (g x)) := by
  obtain ⟨f, fd, hm, hk, hb, F⟩ := h
  exact (ev_callX F tk (hr.mono hj) hm hk hb (evL1 ha hs) hg hdb hs hpl).eq bind_one
theorem callX2 {g : D → D → Out Unit Unit} (h : Does X.prog X.w X.K X.mg X.base (L2.CX X.prog X.w) x ps kk (spF X.K X.mg k (fn2 g))) (tk : Takes X W) (hr : Room j X.A) (ha : Ev X W .R a ρ oa) (hb : Ev X W .R b ρ ob) (hj : kk ≤ j := by decide) (hg : Gl X x := by rfl) (hdb : (x == ("__debug__" : Str)) = false := by decide)
    (hs : starEach (a :: [b]) X.env = (false, eval a X.env) :: starEach [b] X.env := by rfl) (hs2 : starEach (b :: []) X.env = (false, eval b X.env) :: starEach [] X.env := by rfl) (hpl : (backTo pos (starEach [b] X.env)).any (·.1) = false := by rfl) :
    Ev X W k (.Call (.Name x p) [a, b] [] pos) ρ (oa.bind fun x => ob.bind fun y => callX (g x y)) := by
  obtain ⟨f, fd, hm, hk, hbd, F⟩ := h
  exact (ev_callX F tk (hr.mono hj) hm hk hbd (evL2 ha hb hs hs2) hg hdb hs hpl).eq bind_two
end
end
end Sw

/- part SwMore -/
/-! More rules: list.index, pop, items changed in a loop. -/
namespace Sw
open PySem PySem.Spec PyProof.Rows L2
section
variable {X : Cx} {W : WX} {xv : List Slot} {k : Kd} {α β γ S : Type} {env env' : List Slot} {mk : α → List Slot} {lk : β → List Slot} {e er a b : Expr} {rest : List Stmt} {pos : Pos} {H0 H H' : Hp} {σ : Sg} {D : Ends} {ρ : List (Option Sw.D)} {oa ob : Rs Sw.D}
/-! ### list.index -/
def indexI (ds : List Sw.D) (y : Sw.D) : Rs Sw.D := match y with
  | .int k => match getInts ds with
    | some ns => if k ∈ ns then .nx (.int (ns.idxOf k)) else .err
    | none => .err
  | _ => .err
def indexD (x : Sw.D) (ob : Rs Sw.D) : Rs Sw.D := match x with
  | .lst ds => ob.bind (indexI ds)
  | _ => .err
theorem all_flat : ∀ ns : List Int, (ns.map V.int).all flatV = true
  | [] => rfl
  | n :: ns => by rw [List.map_cons, List.all_cons, all_flat ns]; rfl
theorem ev_index {ap : Pos} (ha : Ev X W .R a ρ oa) (hb : Ev X W .R b ρ ob)
    (hbase : attributeBase a "index" X.env (eval a X.env) = eval a X.env := by rfl)
    (hfew : ((backTo pos (starEach [b] X.env)).all (fun x => !x.1) && (backToKw pos (keywordEach [] X.env)).all (fun x => x.1.isSome)
      && decide (([b] : List Expr).length + ([] : List Keyword).length + (if ([] : List Keyword).isEmpty then 0 else 1) < 30)) = true := by rfl)
    (hline : (ap.endLine == pos.line) = true := by rfl) (hs : starEach (b :: []) X.env = (false, eval b X.env) :: starEach [] X.env := by rfl) (hplain : (backTo pos (starEach [] X.env)).any (·.1) = false := by rfl) :
    Ev X W k (.Call (.Attribute a "index" ap) [b] [] pos) ρ (oa.bind fun x => indexD x ob) := fun σ H Q hr q => by
  refine wE.of (pe_bm PySem.F.plainAttrs_list PySem.F.slot_list_index PySem.F.type_list_index mt_index (wE.pe X a) (pa_cons (wE.pe X b) pa_nil hs) hbase hfew hline hs hplain) ?_
  show wE X a σ H _
  refine ha σ H _ hr ?_
  cases oa with
  | nx x =>
    intro v H1 s1 rx
    have rx : Rep X.K H1 x v := rx
    cases x with
    | lst ds =>
      unfold Rep at rx
      obtain ⟨p, vs, e, hp, r⟩ := rx
      subst e
      refine ⟨ty_list hp, ?_⟩
      show wE X b σ H1 _
      refine hb σ H1 _ (hr.mono s1) ?_
      cases ob with
      | nx y =>
        intro w H2 s2 ry
        have ry : Rep X.K H2 y w := ry
        have q : PostE X W k σ H Q (indexI ds y) := q
        unfold indexI at q
        cases y with
        | int i =>
          unfold Rep at ry
          cases eg : getInts ds with
          | none => simp only [eg] at q; exact q.elim
          | some ns =>
            simp only [eg] at q
            by_cases c : i ∈ ns
            · rw [if_pos c] at q
              rw [getInts_eq eg] at r
              have ev := RepL.ints.mp r
              subst ev
              have hlt := List.idxOf_lt_length_of_mem c
              refine ⟨p, _, .int i, ns.idxOf i, .int i, rfl, by rw [ry], SqL.of (s2 _ _ hp), rfl, all_flat ns, ?_, ?_, ?_, ?_⟩
              · rw [List.getElem?_map, List.getElem?_eq_getElem hlt, List.getElem_idxOf hlt]; rfl
              · show (i == i) = true
                exact beq_self_eq_true i
              · intro t z ht hz
                have htl : t < ns.length := Nat.lt_trans ht hlt
                rw [List.getElem?_map, List.getElem?_eq_getElem htl] at hz
                cases hz
                show (ns[t] == i) = false
                have := List.not_of_lt_findIdx (xs := ns) (p := fun x => x == i) (i := t) (by simpa [List.idxOf] using ht)
                simpa using this
              · exact (q : ∀ v H', _) _ H2 (s1.trans s2) (Kd.atom rfl (H2 := H2) (by unfold Rep; rfl) k)
            · rw [if_neg c] at q; exact q.elim
        | _ => exact q.elim
      | exc m => exact fun C hC H' sm => q C hC H' (s1.trans sm)
      | err => exact q
    | _ => exact q.elim
  | exc m => exact q
  | err => exact q
/-! ### pop -/
def lastD : Sw.D → Rs Sw.D
  | .lst ds => match ds[ds.length - 1]? with
    | some d => .nx d
    | none => .err
  | _ => .err
def popD : Sw.D → Sw.D
  | .lst ds => .lst ds.dropLast
  | d => d
theorem drop_last {α : Type} (l : List α) : l.eraseIdx (l.length - 1) = l.dropLast := by
  induction l with
  | nil => rfl
  | cons a r ih =>
    cases r with
    | nil => rfl
    | cons b r =>
      show a :: (b :: r).eraseIdx ((b :: r).length - 1) = _
      rw [ih]
      rfl
/-- x.pop() -/
theorem evP_pop {n : Nat} {d : Sw.D} {x : Str} {p ap : Pos} (i : Nat) (hi : env[i]? = some (.S (n + 1) d) := by rfl) (hN : X.N[i]? = some x := by rfl)
    (hv : Vis X.env.scope x := by first | exact Or.inl rfl | exact Or.inr (Or.inl rfl) | exact Or.inr (Or.inr rfl)) (hd : (x == ("__debug__" : Str)) = false := by decide)
    (hcd : (x == ("__classdict__" : Str)) = false := by decide)
    (hbase : attributeBase (.Name x p) "pop" X.env (eval (.Name x p) X.env) = eval (.Name x p) X.env := by rfl) (hline : (ap.endLine == pos.line) = true := by rfl) :
    EvP X W n (.Call (.Attribute (.Name x p) "pop" ap) [] [] pos) env (env.set i (.S (n + 1) (popD d))) (lastD d) := fun H0 σ H Q hF q => by
  refine wE.of (pe_bm0 PySem.F.plainAttrs_list PySem.F.slot_list_pop PySem.F.type_list_pop mt_pop (pe_var hN hv hd hcd) hbase hline) ?_
  obtain ⟨v, h1, rv⟩ := hF.rd.get i d (by rw [List.getElem?_map, hi]; rfl)
  refine ⟨v, h1, ?_⟩
  cases d with
  | lst ds =>
    unfold lastD at q
    cases em : ds[ds.length - 1]? with
    | none => simp only [em] at q
    | some y =>
      simp only [em] at q
      obtain ⟨b, vs, w, e1, hb, hl, hw, f⟩ := hF.drop1 (j := none) (n := n) hi rfl h1 rfl em
      subst e1
      refine ⟨ty_list hb, b, vs, w, rfl, rfl, hb, by rw [hl]; exact hw, ?_⟩
      have e2 : vs.eraseIdx (ds.length - 1) = vs.dropLast := by rw [← hl]; exact drop_last vs
      rw [e2] at f
      have e3 : plPut none (Sw.D.lst ds) (ds.eraseIdx (ds.length - 1)) = popD (.lst ds) := by
        show Sw.D.lst (ds.eraseIdx (ds.length - 1)) = .lst ds.dropLast
        rw [drop_last]
      rw [e3] at f
      exact q _ _ f
  | _ => exact q.elim
def popAtD (d a : Sw.D) : Sw.D := match d, a with
  | .lst ds, .int i => match ixN ds.length i with
    | some m => .lst (ds.eraseIdx m)
    | none => d
  | .pin b ds, .int i => match ixN ds.length i with
    | some m => .pin b (ds.eraseIdx m)
    | none => d
  | _, _ => d
def itemOf (d a : Sw.D) : Rs Sw.D := match d, a with
  | .lst ds, .int i => match ixN ds.length i with
    | some m => if ds.length ≤ sizeLine then (match ds[m]? with
      | some y => .nx y
      | none => .err) else .err
    | none => .err
  | .pin _ ds, .int i => match ixN ds.length i with
    | some m => if ds.length ≤ sizeLine then (match ds[m]? with
      | some y => .nx y
      | none => .err) else .err
    | none => .err
  | _, _ => .err
/-- x.pop(e), e's value known -/
theorem evP_popAt {n : Nat} {d y : Sw.D} {x : Str} {p ap : Pos} (i : Nat) (hb : Ev X W .R b (dat env) (.nx y)) (hi : env[i]? = some (.S (n + 1) d) := by rfl) (hN : X.N[i]? = some x := by rfl)
    (hv : Vis X.env.scope x := by first | exact Or.inl rfl | exact Or.inr (Or.inl rfl) | exact Or.inr (Or.inr rfl)) (hd : (x == ("__debug__" : Str)) = false := by decide)
    (hcd : (x == ("__classdict__" : Str)) = false := by decide)
    (hbase : attributeBase (.Name x p) "pop" X.env (eval (.Name x p) X.env) = eval (.Name x p) X.env := by rfl)
    (hfew : ((backTo pos (starEach [b] X.env)).all (fun x => !x.1) && (backToKw pos (keywordEach [] X.env)).all (fun x => x.1.isSome)
      && decide (([b] : List Expr).length + ([] : List Keyword).length + (if ([] : List Keyword).isEmpty then 0 else 1) < 30)) = true := by rfl)
    (hline : (ap.endLine == pos.line) = true := by rfl) (hs : starEach (b :: []) X.env = (false, eval b X.env) :: starEach [] X.env := by rfl) (hplain : (backTo pos (starEach [] X.env)).any (·.1) = false := by rfl) :
    EvP X W n (.Call (.Attribute (.Name x p) "pop" ap) [b] [] pos) env (env.set i (.S (n + 1) (popAtD d y))) (itemOf d y) := fun H0 σ H Q hF q => by
  refine wE.of (pe_bm PySem.F.plainAttrs_list PySem.F.slot_list_pop PySem.F.type_list_pop mt_popAt (pe_var hN hv hd hcd) (pa_cons (wE.pe X b) pa_nil hs) hbase hfew hline hs hplain) ?_
  obtain ⟨v, h1, rv⟩ := hF.rd.get i d (by rw [List.getElem?_map, hi]; rfl)
  refine ⟨v, h1, ?_⟩
  cases d with
  | lst ds =>
    unfold Rep at rv
    obtain ⟨b0, vs0, e0, hb0, _⟩ := rv
    subst e0
    refine ⟨ty_list hb0, ?_⟩
    show wE X b σ H _
    refine hb σ H _ hF.rd fun w H1 s1 rw' => ?_
    cases y with
    | int t =>
      have rw' : Rep X.K H1 (.int t) w := rw'
      unfold Rep at rw'
      unfold itemOf at q
      cases em : ixN ds.length t with
      | none => simp only [em] at q
      | some m =>
        simp only [em] at q
        by_cases c : ds.length ≤ sizeLine
        · simp only [if_pos c] at q
          obtain ⟨sx, hm, lo, hi2⟩ := ixN_seq em
          have ey : ds[m]? = some ds[m] := List.getElem?_eq_getElem hm
          simp only [ey] at q
          obtain ⟨b1, vs, wy, e1, hb1, hl, hw, f⟩ := (hF.grow s1).drop1 (j := none) (n := n) hi rfl h1 rfl ey
          cases e1
          have big : (ds.length : Int) ≤ 2 ^ 62 := by
            have : (sizeLine : Nat) ≤ 2 ^ 62 := by rw [sizeLine_eq]; decide
            omega
          refine ⟨b0, vs, t, m, wy, rfl, by rw [rw'], hb1, by omega, by omega, by rw [hl]; exact sx, hw, ?_⟩
          have e3 : plPut none (Sw.D.lst ds) (ds.eraseIdx m) = popAtD (.lst ds) (.int t) := by
            unfold popAtD
            simp only [em]
            rfl
          rw [e3] at f
          exact q _ _ f
        · simp only [if_neg c] at q
    | _ => exact q.elim
  | pin b0 ds =>
    unfold Rep at rv
    obtain ⟨e0, vs0, hb0, _⟩ := rv
    subst e0
    refine ⟨ty_list hb0, ?_⟩
    show wE X b σ H _
    refine hb σ H _ hF.rd fun w H1 s1 rw' => ?_
    cases y with
    | int t =>
      have rw' : Rep X.K H1 (.int t) w := rw'
      unfold Rep at rw'
      unfold itemOf at q
      cases em : ixN ds.length t with
      | none => simp only [em] at q
      | some m =>
        simp only [em] at q
        by_cases c : ds.length ≤ sizeLine
        · simp only [if_pos c] at q
          obtain ⟨sx, hm, lo, hi2⟩ := ixN_seq em
          have ey : ds[m]? = some ds[m] := List.getElem?_eq_getElem hm
          simp only [ey] at q
          obtain ⟨b1, vs, wy, e1, hb1, hl, hw, f⟩ := (hF.grow s1).drop1 (j := none) (n := n) hi rfl h1 rfl ey
          cases e1
          have big : (ds.length : Int) ≤ 2 ^ 62 := by
            have : (sizeLine : Nat) ≤ 2 ^ 62 := by rw [sizeLine_eq]; decide
            omega
          refine ⟨b0, vs, t, m, wy, rfl, by rw [rw'], hb1, by omega, by omega, by rw [hl]; exact sx, hw, ?_⟩
          have e3 : plPut none (Sw.D.pin b0 ds) (ds.eraseIdx m) = popAtD (.pin b0 ds) (.int t) := by
            unfold popAtD
            simp only [em]
            rfl
          rw [e3] at f
          exact q _ _ f
        · simp only [if_neg c] at q
    | _ => exact q.elim
  | _ => exact (by cases y <;> exact q.elim)
/-! ### for y in e: y.append(c) -/
def appC (c : Int) : Sw.D → Sw.D
  | .lst ds => .lst (ds ++ [.int c])
  | d => d
def shortL : Sw.D → Bool
  | .lst ds => decide (ds.length < sizeLine)
  | _ => false
def appAllD : Sw.D → Rs Unit
  | .lst dss => if dss.all shortL = true then .nx () else .err
  | _ => .err
theorem Fr.push_slot {n : Nat} {d : Sw.D} {v w : V} {ix : Nat} {env : List Slot} (h : Fr X.K H0 H (some v :: σ) (.S n d :: env)) (hx : env[ix]? = some .J) : Fr X.K H0 H (some v :: σ.set ix (some w)) (.S n d :: env) := by
  obtain ⟨Hs, F, x⟩ := h
  obtain ⟨v', σ', F1, F2, e, p, r, eF⟩ := x.cls
  cases e
  have go : ∀ {env : List Slot} {σ : Sg} {F : List Addr} {ix : Nat}, Cls X.K Hs H σ env F → env[ix]? = some .J → Cls X.K Hs H (σ.set ix (some w)) env F := by
    intro env
    induction env with
    | nil => intro σ F ix _ h; simp at h
    | cons s env ih =>
      intro σ F ix c h
      cases s with
      | J =>
        obtain ⟨o, σ', e, r⟩ := c
        subst e
        cases ix with
        | zero => exact ⟨some w, σ', rfl, r⟩
        | succ ix => exact ⟨o, _, rfl, ih r (by simpa using h)⟩
      | S m d =>
        obtain ⟨u, σ', G1, G2, e, p, r, eG⟩ := c
        subst e
        cases ix with
        | zero => simp at h
        | succ ix => exact ⟨u, _, G1, G2, rfl, p, ih r (by simpa using h), eG⟩
  exact ⟨Hs, F, x.low, x.up, ⟨v, _, F1, F2, rfl, p, go r hx, eF⟩, x.nd, x.fresh⟩
theorem ex_forApp {n c : Nat} {jj : Nat} {iter : Expr} {x : Str} {p p1 p2 ap cp sp : Pos} {oi : Rs Sw.D} {g : Unit → Out β α} (ix : Nat) (hit : EvM X W (n + 2) iter env env' oi) (hr : ∀ u, Ex X W xv k rest (env'.set ix .J) (g u) mk lk)
    (hpo : PassesOwn (model X.prog X.w) X.A X.env X.xe) (hg : PG X (.Name x p) (gName ix)) (hi : Nat.blt ix env'.length = true := by rfl) (hN : X.N[ix]? = some x := by rfl)
    (hv : Vis X.env.scope x := by first | exact Or.inl rfl | exact Or.inr (Or.inl rfl) | exact Or.inr (Or.inr rfl)) (hd : (x == ("__debug__" : Str)) = false := by decide)
    (hcd : (x == ("__classdict__" : Str)) = false := by decide) (hcalm : X.calm = true := by rfl) (hx : XOk env xv := by first | exact Or.inl rfl | exact Or.inr (by repeat (first | exact Wk.nil | refine Wk.keep ?_ | refine Wk.drop ?_)))
    (hfs : ∀ y, foldedSetIterable iter X.env y = pure y := by intro _; rfl)
    (hbase : attributeBase (.Name x p1) "append" X.env (eval (.Name x p1) X.env) = eval (.Name x p1) X.env := by rfl)
    (hs1 : starEach ((.Constant (.int (c : Nat)) jj p2) :: []) X.env = (false, eval (.Constant (.int (c : Nat)) jj p2) X.env) :: starEach [] X.env := by rfl)
    (hfew : ((backTo cp (starEach [.Constant (.int (c : Nat)) jj p2] X.env)).all (fun x => !x.1) && (backToKw cp (keywordEach [] X.env)).all (fun x => x.1.isSome)
      && decide (([.Constant (.int (c : Nat)) jj p2] : List Expr).length + ([] : List Keyword).length + (if ([] : List Keyword).isEmpty then 0 else 1) < 30)) = true := by rfl)
    (hline : (ap.endLine == cp.line) = true := by rfl) (hplain : (backTo cp (starEach [] X.env)).any (·.1) = false := by rfl)
    (hs : swapsWith (.Call (.Attribute (.Name x p1) "append" ap) [.Constant (.int (c : Nat)) jj p2] [] cp) none sp.line X.env = pure false := by rfl) :
    Ex X W xv k (.For (.Name x p) iter [.Expr (.Call (.Attribute (.Name x p1) "append" ap) [.Constant (.int (c : Nat)) jj p2] [] cp) sp] [] pos :: rest) env (oi.to fun d => (appAllD d).to g) mk lk := fun H0 σ H D hF q => by
  refine wSs.cons (ps_for hpo hcalm (pi_list (wE.pe X iter)) hg (pss_one (ps_expr (pe_bm PySem.F.plainAttrs_list PySem.F.slot_list_append PySem.F.type_list_append mt_append (pe_var hN hv hd hcd) (pa_cons pe_int pa_nil hs1) hbase hfew hline hs1 hplain) hs)) hfs) ?_
  show wE X iter σ H _
  refine hit.first hF hx q fun d v H1 s1 f1 q1 => ?_
  cases d with
  | lst dss =>
    have e0 : appAllD (.lst dss) = if dss.all shortL = true then .nx () else .err := rfl
    rw [e0] at q1
    by_cases hall : dss.all shortL = true
    · rw [if_pos hall] at q1
      have q1 : PostS X W xv k H0 D mk lk (g ()) := q1
      obtain ⟨Hs, F, y⟩ := f1
      have fst : Fr X.K H0 H1 (some v :: σ) (.S (n + 2) (.lst dss) :: env') := ⟨Hs, F, y⟩
      obtain ⟨v', σ', F1, F2, e, o, cl, eF⟩ := y.cls
      cases e
      obtain ⟨a, vs, F', ev, ha, r, eF1⟩ := o
      subst ev
      refine ⟨a, rfl, ⟨vs, SqL.of ha⟩, ?_⟩
      have hix : ix < env'.length := Nat.le_of_ble_eq_true hi
      have fJ : Fr X.K H0 H1 (some (.ref a) :: σ) (.S (n + 2) (.lst dss) :: env'.set ix .J) := fst.wk (.keep (by
        have go : ∀ (l : List Slot) (i : Nat), Wk l (l.set i .J) := fun l => by
          induction l with
          | nil => intro i; exact .nil
          | cons s l ih =>
            intro i
            cases i with
            | zero => exact .drop (Wk.refl l)
            | succ i => exact .keep (ih i)
        exact go env' ix))
      refine for_it (walk_list (K := X.K) (a := a) (xs := vs)) (fun t σ H => ∃ es : List Sw.D, es.length = dss.length ∧ (∀ j d, t ≤ j → dss[j]? = some d → es[j]? = some d) ∧ H a = some (.lst vs) ∧ Fr X.K H0 H (some (.ref a) :: σ) (.S (n + 2) (.lst es) :: env'.set ix .J)) ⟨dss, rfl, fun j d _ h => h, ha, fJ⟩ ?_ ?_ ?_
      · rintro t σ H _ ⟨es, _, _, hh, _⟩
        exact SqL.of hh
      · rintro t z σ H H' ht ⟨es, le, keep, hh, f⟩ yy
        obtain ⟨eH, hz⟩ := yy
        subst eH
        have hlen : vs.length = dss.length := r.len
        have htd : t < dss.length := by rw [← hlen]; exact ht
        have ed : dss[t]? = some dss[t] := List.getElem?_eq_getElem htd
        have sh := List.all_eq_true.mp hall dss[t] (List.getElem_mem htd)
        have ee := keep t dss[t] (Nat.le_refl _) ed
        cases edt : dss[t] with
        | lst ds =>
          rw [edt] at sh ee
          have sh : ds.length < sizeLine := of_decide_eq_true sh
          have f2 : Fr X.K H0 H' (some (.ref a) :: σ.set ix (some z)) (.S (n + 2) (.lst es) :: env'.set ix .J) := f.push_slot (by rw [List.getElem?_set_self hix])
          have f3 : Fr X.K H0 H' (some (.int (c : Nat)) :: some (.ref a) :: σ.set ix (some z)) (.S n (.int (c : Nat)) :: .S (n + 2) (.lst es) :: env'.set ix .J) := f2.push (Same.refl _) (Kd.atom rfl (H2 := H') (by unfold Rep; rfl) (.O n))
          have hlσ : ix < List.length σ := by
            obtain ⟨Hs', F', y'⟩ := f
            have := y'.cls.len
            simp at this
            omega
          obtain ⟨b, us, e1, hb, hl, ed⟩ := Fr.edit (i := 0) (j := some t) (N := n + 2) f3 rfl rfl (v := z) ⟨a, vs, rfl, .inl hh, hz⟩ (by show plGet (some t) (.lst es) = some ds; simp [plGet, ee])
          subst e1
          have nb : a ≠ b := by
            intro e
            subst e
            have fr := f2
            -- the outer list is not one of its own items
            obtain ⟨Hs', F', y'⟩ := fr
            obtain ⟨v', σ', G1, G2, e, o, cl, eF⟩ := y'.cls
            cases e
            obtain ⟨a', us', G', ev', ha', r', eG⟩ := o
            cases ev'
            rw [hh] at ha'
            cases ha'
            obtain ⟨w, Fi, A, B, hw, oi, eG', _, _⟩ := AllF.at r' ee
            rw [hz] at hw
            cases hw
            obtain ⟨a'', _, _, ew, _, _, eFi⟩ := oi
            cases ew
            have nd := y'.nd
            rw [eF, eG, eG', eFi] at nd
            simp at nd
          refine ⟨.ref b, List.getElem?_set_self hlσ, ty_list hb, b, us, _, rfl, rfl, hb, by rw [hl]; exact sh, ?_⟩
          have fin := ed (ds ++ [.int (c : Nat)]) _ edit_append
          have fin : Fr X.K H0 (upd H' b (.lst (us ++ [.int (c : Nat)]))) (some (.ref a) :: σ.set ix (some (.ref b))) (.S (n + 2) (.lst (es.set t (.lst (ds ++ [.int (c : Nat)])))) :: env'.set ix .J) := fin
          refine ⟨_, by rw [List.length_set]; exact le, fun j d hj hd => ?_, by rw [upd_ne nb]; exact hh, fin⟩
          rw [List.getElem?_set_ne (by omega)]
          exact keep j d (by omega) hd
        | _ => rw [edt] at sh; cases sh
      · rintro σ H ⟨es, _, _, _, f⟩
        exact hr () H0 σ H D f.pop0 q1
    · rw [if_neg hall] at q1
      exact q1.elim
  | _ => exact q1.elim
/-! ### a value that is read, where no slot owns anything -/
def allS : List Slot → Prop
  | [] => True
  | .J :: r => allS r
  | .S 0 _ :: r => allS r
  | .S (_ + 1) _ :: _ => False
theorem cls_allS {K : PySem.W.Frag} {Hs H : Hp} : ∀ {σ : Sg} {env : List Slot} {F : List Addr}, allS env → Cls K Hs H σ env F → F = []
  | σ, [], F, _, ⟨_, e⟩ => e
  | σ, .J :: env, F, a, ⟨o, σ', e, r⟩ => cls_allS (env := env) a r
  | σ, .S 0 d :: env, F, a, ⟨v, σ', F1, F2, e, p, r, eF⟩ => by
    rw [eF, p.2, cls_allS (env := env) a r]
    rfl
  | σ, .S (n + 1) d :: env, F, a, x => a.elim
theorem evM_rd {o : Rs Sw.D} (ha : allS env) (h : Ev X W .R e (dat env) o) : EvM X W 0 e env env o := fun H0 σ H Q hF q => by
  obtain ⟨Hs, F, x⟩ := hF
  refine h σ H Q x.rd ?_
  cases o with
  | nx d =>
    intro v H' sm s
    refine q v H' sm ?_
    have y := x.grow sm
    have hF := cls_allS ha y.cls
    subst hF
    have z : Cls X.K H' H' σ env [] := Cls.congr y.up (fun _ _ => rfl) y.cls
    exact ⟨H', [], y.low.trans y.up, Same.refl _, ⟨v, σ, [], [], rfl, ⟨Kd.sat.rep s, rfl⟩, z, rfl⟩, .nil, fun _ m => by cases m⟩
  | exc m => exact q
  | err => exact q
end
end Sw
namespace Sw
open PySem PySem.Spec PyProof.Rows L2
theorem law_end {K : PySem.W.Frag} {H : Hp} {a : Addr} {ns : List Int} {f : D → Out Unit Unit} {E : XK} (h : f (.scr ns) = .rt (.bl true)) (hS : SqL K H a (ns.map V.int)) : spN K .R (fn1 f) [.ref a] H (fun v _ => v = .bl true) E := by
  refine ⟨[.scr ns], RepL.cons (by unfold Rep; exact ⟨a, rfl, hS⟩) RepL.nil, ?_⟩
  show PostN K .R H _ (f (.scr ns))
  rw [h]
  intro v H' _ r
  have r : Rep K H' (.bl true) v := r
  unfold Rep at r
  exact r
theorem fnOk_at {P : Program} {w : World} {K : PySem.W.Frag} {mg : Str → Option Value} {base : Heap} {CX : CXT} {k : Nat} {f : Addr} {fd fd' : FuncData} {ps : List Str} {sp : Sp} {x q : Str} {st : Stmt} (F : Fun K x q st f fd) (h : FnOk P w K mg base CX k f fd' ps sp) (e : fd' = fd := by rfl) : FnOk P w K mg base CX k f fd ps sp := e ▸ h
end Sw

/- part SwSet -/
namespace Sw
open PySem PySem.Spec PyProof.Rows L2
/-! ### len(set(xs)), xs numbers -/
/-- how many unlike numbers -/
def many1 (ns : List Int) : Nat := (PyProof.Rows.firstMet (fun i => ns.getD i 0) ns.length).length
def setD (x : Sw.D) : Rs Sw.D := match x with
  | .lst ds => match getInts ds with
    | some ns => if ns.length ≤ 4000 then .nx (.int (many1 ns : Nat)) else .err
    | none => .err
  | _ => .err
def tLenS (K : PySem.W.Frag) (ta : TE) : TE := fun σ H Q => ta σ H fun x H1 => ∃ (l : Addr) (ns : List Int), x = .ref l ∧ SqL K H1 l (ns.map V.int) ∧ ns.length ≤ 4000 ∧ Q (.int (many1 ns : Nat)) H1
theorem firstMet_le (f : Nat → Int) : ∀ i, (PyProof.Rows.firstMet f i).length ≤ i
  | 0 => Nat.le_refl _
  | i + 1 => by
    have ih := firstMet_le f i
    rw [PyProof.Rows.firstMet_succ]
    unfold PyProof.Rows.step_dedup
    split <;> simp <;> omega
theorem pe_lenS {X : Cx} {a : Expr} {ta : TE} {p p2 q pos : Pos} (hg : Gl X "len") (hm : X.mg "len" = none) (hg2 : Gl X "set") (hm2 : X.mg "set" = none) (ha : PE X a ta) (hc : X.calm = true := by rfl)
    (na : starEach [a] X.env = (false, eval a X.env) :: starEach [] X.env := by rfl) : PE X (.Call (.Name "len" p) [.Call (.Name "set" p2) [a] [] q] [] pos) (tLenS X.K ta) := by
  refine ⟨fun pins s σ H Q I h => ?_⟩
  refine Call_ (ld_blt I hg hm boot_len ?_)
  refine PyProof.Rows.callWith_builtin1 (PyProof.Rows.args_cons ?_ rfl) rfl rfl
  refine Call_ (ld_blt I hg2 hm2 boot_set ?_)
  refine PyProof.Rows.callWith_type1 (PyProof.Rows.args_cons (thn (ha.run pins s σ H _ I h) fun v s1 ⟨x, H1, I1, r1, q1⟩ => PyProof.Rows.args_nil ?_) na) na rfl
  obtain ⟨l, ns, rfl, hq, hl, q1⟩ := q1
  cases r1
  obtain ⟨its, r, pl, hz⟩ := I1.list hq
  have hlen : its.toArray.size = ns.length := by rw [List.size_toArray, ← r.length, List.length_map]
  have hfm := firstMet_le (fun i => ns.getD i 0) ns.length
  refine call_set_list (I1.ok.hd hc) pl.isList (by simpa using RZ.intsAre_vals r) (by rw [hlen]; unfold scanBound; omega) fun h' tk hS hk => ?_
  refine PyProof.Rows.args_nil ?_
  rw [hlen] at hS
  obtain ⟨o, es, ep, t, ho, hex, hd, _, _, _, hf, hn⟩ := hS
  have I2 : Inv X pins σ H1 { s1 with heap := h', toks := tk } := I1.kept fun b o e => hk b o (Heap.lt_size e) e
  exact call_len_set ho hex hd hf (by rw [hn] <;> omega) ⟨.int (many1 ns), H1, I2.tok _, ⟨_, by rw [hn]; rfl⟩, q1⟩
section
variable {X : Cx} {W : WX} {xv : List Slot} {k : Kd} {α β : Type} {env : List Slot} {mk : α → List Slot} {lk : β → List Slot} {ρ : List (Option Sw.D)}
/-- a statement that is never reached -/
theorem ex_err {sts : List Stmt} : Ex X W xv k sts env (Out.err : Out β α) mk lk := fun H0 σ H D hF q => q.elim
end
end Sw
namespace Sw
open PySem PySem.Spec PyProof.Rows L2
section
variable {X : Cx} {W : WX} {k : Kd} {ρ : List (Option Sw.D)}
theorem ev_lenset0 {a : Expr} {p p2 q pos : Pos} {oa : Rs Sw.D} (hm : X.mg "len" = none) (hm2 : X.mg "set" = none) (ha : Ev X W .R a ρ oa) (hg : Gl X "len" := by rfl) (hg2 : Gl X "set" := by rfl) (hc : X.calm = true := by rfl)
    (na : starEach [a] X.env = (false, eval a X.env) :: starEach [] X.env := by rfl) : Ev X W k (.Call (.Name "len" p) [.Call (.Name "set" p2) [a] [] q] [] pos) ρ (oa.bind setD) := fun σ H Q hr q1 => by
  refine wE.of (pe_lenS hg hm hg2 hm2 (wE.pe X a) hc na) ?_
  show wE X a σ H _
  refine ha.then hr q1 fun d v H1 sm r p => ?_
  cases d with
  | lst ds =>
    have r : Rep X.K H1 (.lst ds) v := r
    unfold Rep at r
    obtain ⟨l, vs, e, hl, rv⟩ := r
    have p5 : PostE X W k σ H1 Q (match getInts ds with | some ns => if ns.length ≤ 4000 then (.nx (.int (many1 ns : Nat)) : Rs Sw.D) else .err | none => .err) := p
    cases hg : getInts ds with
    | none => rw [hg] at p5; exact p5.elim
    | some ns =>
      rw [hg] at p5
      have p6 : PostE X W k σ H1 Q (if ns.length ≤ 4000 then (.nx (.int (many1 ns : Nat)) : Rs Sw.D) else .err) := p5
      have eds := getInts_eq hg
      subst eds
      have ev : vs = ns.map V.int := RepL.ints.mp rv
      by_cases c : ns.length ≤ 4000
      · rw [if_pos c] at p6
        exact ⟨l, ns, e, by rw [← ev]; exact SqL.of hl, c, (p6 : ∀ v H', _) _ H1 (Same.refl _) (Kd.atom rfl (H2 := H1) (by unfold Rep; rfl) k)⟩
      · rw [if_neg c] at p6
        exact p6.elim
  | _ => exact p.elim
end
end Sw
namespace Sw
open PySem PySem.Spec PyProof.Rows L2
theorem ev_lenset {X : Cx} {W : WX} {k : Kd} {ρ : List (Option Sw.D)} {a : Expr} {p p2 q pos : Pos} {oa : Rs Sw.D} (m : Bi X.mg) (ha : Ev X W .R a ρ oa) (hg : Gl X "len" := by rfl) (hg2 : Gl X "set" := by rfl) (hc : X.calm = true := by rfl)
    (na : starEach [a] X.env = (false, eval a X.env) :: starEach [] X.env := by rfl) : Ev X W k (.Call (.Name "len" p) [.Call (.Name "set" p2) [a] [] q] [] pos) ρ (oa.bind fun x => setD x) := ev_lenset0 m.len m.set ha hg hg2 hc na
end Sw
namespace Sw
open PySem PySem.Spec PyProof.Rows L2
/-! ### x[e].pop() -/
def popInD (d a : Sw.D) : Sw.D := match idxD d a with
  | .nx j => match plGet (some j) d with
    | some ds => plPut (some j) d ds.dropLast
    | none => d
  | _ => d
def lastInD (d a : Sw.D) : Rs Sw.D := match idxD d a with
  | .nx j => match plGet (some j) d with
    | some ds => match ds[ds.length - 1]? with
      | some y => .nx y
      | none => .err
    | none => .err
  | _ => .err
theorem evP_popIn {X : Cx} {W : WX} {env : List Slot} {b : Expr} {pos : Pos} {n : Nat} {d y : Sw.D} {x : Str} {p ap p3 : Pos} (i : Nat) (hb : Ev X W .R b (dat env) (.nx y)) (hi : env[i]? = some (.S (n + 2) d) := by rfl) (hN : X.N[i]? = some x := by rfl)
    (hv : Vis X.env.scope x := by first | exact Or.inl rfl | exact Or.inr (Or.inl rfl) | exact Or.inr (Or.inr rfl)) (hd : (x == ("__debug__" : Str)) = false := by decide)
    (hcd : (x == ("__classdict__" : Str)) = false := by decide) (hs : PlainIx b := by exact (fun _ _ => rfl))
    (hbase : attributeBase (.Subscript (.Name x p) b p3) "pop" X.env (eval (.Subscript (.Name x p) b p3) X.env) = eval (.Subscript (.Name x p) b p3) X.env := by rfl) (hline : (ap.endLine == pos.line) = true := by rfl) :
    EvP X W n (.Call (.Attribute (.Subscript (.Name x p) b p3) "pop" ap) [] [] pos) env (env.set i (.S (n + 2) (popInD d y))) (lastInD d y) := fun H0 σ H Q hF q => by
  refine wE.of (pe_bm0 PySem.F.plainAttrs_list PySem.F.slot_list_pop PySem.F.type_list_pop mt_pop (wE.pe X _) hbase hline) ?_
  show wE X (.Subscript (.Name x p) b p3) σ H _
  refine recv_ix i hb hi hN hv hd hcd hs H0 σ H _ hF ?_
  unfold lastInD at q
  have e0 : ((Rs.nx y).bind fun y => (idxD d y).bind fun j => .nx (some j) : Rs (Option Nat)) = (idxD d y).bind fun j => .nx (some j) := id rfl
  rw [e0]
  cases ej : idxD d y with
  | nx j =>
    simp only [ej] at q
    show ∀ v H', Same H H' → PathV H' σ i (some j) v → _
    intro v H1 s1 pv
    have hF1 := hF.grow s1
    cases ep : plGet (some j) d with
    | none => simp only [ep] at q
    | some ds =>
      simp only [ep] at q
      cases em : ds[ds.length - 1]? with
      | none => simp only [em] at q
      | some z =>
        simp only [em] at q
        obtain ⟨b, vs, w, e1, hb, hl, hw, f⟩ := hF1.drop1 (j := some j) (n := n) hi rfl pv ep em
        subst e1
        refine ⟨ty_list hb, b, vs, w, rfl, rfl, hb, by rw [hl]; exact hw, ?_⟩
        have e2 : vs.eraseIdx (ds.length - 1) = vs.dropLast := by rw [← hl]; exact drop_last vs
        rw [e2, drop_last] at f
        have e3 : popInD d y = plPut (some j) d ds.dropLast := by
          unfold popInD
          simp only [ej, ep]
        rw [← e3] at f
        exact q _ _ f
  | exc m => simp only [ej] at q
  | err => simp only [ej] at q
end Sw

/- part SwExc -/
/-! Exceptions of own classes without __init__: raise, try .. except S as e, isinstance of what was caught. -/
namespace Sw
open PySem PySem.Spec PyProof.Rows L2
abbrev VE : List Value := [.type "ValueError", .type "Exception", .type "BaseException", .type "object"]
structure Xc1 (K : PySem.W.Frag) (C : Addr) : Prop where
  ex : PySem.W.excIn K C VE "ValueError.__new__" = true
  kp : PySem.W.keepIn K (.ref C) = true
  sb : PySem.W.subIn K (.ref C) (.type "BaseException") = some true
  ty : PySem.W.typeIn K (.ref C) = some (.type "type")
/-- x names a class of exceptions -/
def Xc (K : PySem.W.Frag) (mg : Str → Option Value) (x : Str) : Prop := ∃ C, mg x = some (.ref C) ∧ Xc1 K C
/-- one class among the others: what except and isinstance ask of it -/
structure ExAt (K : PySem.W.Frag) (mg : Str → Option Value) (cs : List Str) (n : Str) (C S : Addr) : Prop where
  c : ExcC K C
  catch' : PySem.W.exmOne K (.ref C) (.ref S) = some true
  ve : PySem.W.kitOne K (.ref C) (.type "ValueError") = some true
  at' : ∀ T ∈ cs, ∀ CT, mg T = some (.ref CT) → PySem.W.kitOne K (.ref C) (.ref CT) = some (decide (T = n))
/-- the classes cs, all under StairError -/
structure Exs (K : PySem.W.Frag) (mg : Str → Option Value) (cs : List Str) : Prop where
  se : ∃ S, mg "StairError" = some (.ref S) ∧ ∀ n ∈ cs, ∃ C, mg n = some (.ref C) ∧ ExAt K mg cs n C S
/-- from which no exception leaves -/
def noX {α β : Type} (o : Out β α) : Out β α := match o with
  | .exc _ => .err
  | .nx a => .nx a
  | .rt d => .rt d
  | .bk b => .bk b
  | .ct b => .ct b
  | .err => .err
@[simp] theorem noX_nx {α β : Type} (a : α) : noX (.nx a : Out β α) = .nx a := id rfl
@[simp] theorem noX_rt {α β : Type} (a : D) : noX (.rt a : Out β α) = .rt a := id rfl
/-- what is caught is handed to h -/
def tryD {α β : Type} (cs : List Str) (o : Out β α) (h : Str → Out β α) : Out β α := match o with
  | .exc n => if n ∈ cs then noX (h n) else .err
  | .nx a => .nx a
  | .rt d => .rt d
  | .bk b => .bk b
  | .ct b => .ct b
  | .err => .err
@[simp] theorem tryD_nx {α β : Type} (cs : List Str) (a : α) (h : Str → Out β α) : tryD cs (.nx a) h = .nx a := id rfl
@[simp] theorem tryD_rt {α β : Type} (cs : List Str) (a : D) (h : Str → Out β α) : tryD cs (.rt a) h = .rt a := id rfl
@[simp] theorem tryD_exc {α β : Type} (cs : List Str) (n : Str) (h : Str → Out β α) : tryD cs (.exc n) h = if n ∈ cs then noX (h n) else .err := id rfl
theorem passes_cx {X : Cx} {E₁ : Value → Shared → Prop} {Kx : Value → Shared → Prop} (hx : X.xe = fun e s' => wpAny (model X.prog X.w) X.A (leaving X.env e) (fun _ s'' => Kx e s'') E₁ s') : PassesOwn (model X.prog X.w) X.A X.env X.xe := passes_of hx
section
variable {X : Cx} {W : WX} {xv : List Slot} {k : Kd} {α β γ S : Type} {env env' : List Slot} {mk : α → List Slot} {lk : β → List Slot} {e er a b : Expr} {rest : List Stmt} {pos : Pos} {H0 H H' : Hp} {σ : Sg} {D : Ends} {ρ : List (Option Sw.D)} {oa ob : Rs Sw.D}
/-- raise X('m') -/
theorem ex_raise {x m : Str} {j : Nat} {p p2 pos' : Pos} (tk : Takes X W) (h : Xc X.K X.mg x) (hg : Gl X x := by rfl) (hc : X.calm = true := by rfl) (hx : XOk env xv := by first | exact Or.inl rfl | exact Or.inr (by repeat (first | exact Wk.nil | refine Wk.keep ?_ | refine Wk.drop ?_))) (hdb : (x == ("__debug__" : Str)) = false := by decide) :
    Ex X W xv k (.Raise (some (.Call (.Name x p) [.Constant (.str m) j p2] [] pos)) none pos' :: rest) env (.exc x : Out β α) mk lk := fun H0 σ H D hF q => by
  obtain ⟨C, gC, c⟩ := h
  exact wSs.cons (ps_raise hc tk (pmk_own PySem.F.excBase_ValueError c.ex gC c.kp (raises_own c.sb c.ty) hg hdb)) (q C gC σ H hF.same (hF.toXv hx))
theorem Fr.setJ {K : PySem.W.Frag} {i : Nat} {o : Option V} (h : Fr K H0 H σ env) (hx : env[i]? = some .J) : Fr K H0 H (σ.set i o) env := by
  obtain ⟨Hs, F, x⟩ := h
  have go : ∀ {env : List Slot} {σ : Sg} {F : List Addr} {ix : Nat}, Cls K Hs H σ env F → env[ix]? = some .J → Cls K Hs H (σ.set ix o) env F := by
    intro env
    induction env with
    | nil => intro σ F ix _ h; simp at h
    | cons s env ih =>
      intro σ F ix c h
      cases s with
      | J =>
        obtain ⟨o', σ', e, r⟩ := c
        subst e
        cases ix with
        | zero => exact ⟨o, σ', rfl, r⟩
        | succ ix => exact ⟨o', _, rfl, ih r (by simpa using h)⟩
      | S m d =>
        obtain ⟨u, σ', G1, G2, e, p, r, eG⟩ := c
        subst e
        cases ix with
        | zero => simp at h
        | succ ix => exact ⟨u, _, G1, G2, rfl, p, ih r (by simpa using h), eG⟩
  exact ⟨Hs, F, x.low, x.up, go x.cls hx, x.nd, x.fresh⟩
theorem Fr.putEx {K : PySem.W.Frag} {i : Nat} {a : Addr} (h : Fr K H0 H σ env) (hi : i < env.length) : Fr K H0 H (σ.set i (some (.ref a))) (env.set i (.S 0 (.ex a))) := by
  obtain ⟨Hs, F, x⟩ := h
  obtain ⟨F', y⟩ := x.store (i := i) (n := 0) (d := .ex a) (v := .ref a) (G := []) hi ⟨by unfold Rep; rfl, rfl⟩ .nil (fun _ m => by cases m) (fun _ m => by cases m)
  exact ⟨Hs, F', y⟩
/-- isinstance(e, T), e caught, T an own class -/
theorem ev_isE {cs : List Str} {n T x : Str} {C : Addr} {ad : Addr} {oe : Obj} {pn : List (Addr × Obj)} {p p1 p2 : Pos} (i : Nat) (E : Exs X.K X.mg cs) (hn : n ∈ cs) (hC : X.mg n = some (.ref C)) (hz : Zc (.ref C) none oe) (hf : ∃ vs, oe.data = .fields vs) (hm : X.mg "isinstance" = none) (hT : T ∈ cs)
    (hρ : ρ[i]? = some (some (.ex ad)) := by rfl) (hN : X.N[i]? = some x := by rfl)
    (hv : Vis X.env.scope x := by first | exact Or.inl rfl | exact Or.inr (Or.inl rfl) | exact Or.inr (Or.inr rfl)) (hd : (x == ("__debug__" : Str)) = false := by decide)
    (hcd : (x == ("__classdict__" : Str)) = false := by decide) (hg : Gl X "isinstance" := by rfl) (hgT : Gl X T := by rfl) (hdT : (T == ("__debug__" : Str)) = false := by decide)
    (he : starEach (.Name x p1 :: [.Name T p2]) X.env = (false, eval (.Name x p1) X.env) :: starEach [.Name T p2] X.env := by rfl) (he2 : starEach [.Name T p2] X.env = (false, eval (.Name T p2) X.env) :: starEach [] X.env := by rfl)
    (hpl : (backTo pos (starEach [.Name T p2] X.env)).any (·.1) = false := by rfl) :
    Ev (X.suite ad ((ad, oe) :: pn)) W k (.Call (.Name "isinstance" p) [.Name x p1, .Name T p2] [] pos) ρ (.nx (.bl (decide (T = n))) : Rs Sw.D) := fun σ H Q hr q => by
  obtain ⟨S, hS, all⟩ := E.se
  obtain ⟨C', hC', ea⟩ := all n hn
  rw [hC] at hC'
  cases hC'
  obtain ⟨CT, hCT, _⟩ := all T hT
  obtain ⟨v, h1, h2⟩ := hr.get i _ hρ
  unfold Rep at h2
  subst h2
  refine wE.of (pe_callB (call_isE ea.c hz hf) hg hm (by decide +kernel) (pa_cons (pe_var hN hv hd hcd) (pa_cons (pe_glob (v := .ref CT) hgT hCT rfl hdT) pa_nil he2) he) (by decide) (by decide) he hpl) ?_
  exact ⟨.ref ad, h1, .ref CT, .ref CT, _, rfl, fun u r => r, ea.at' T hT CT hCT, (q : ∀ v H', _) _ H (Same.refl _) (Kd.atom rfl (H2 := H) (by unfold Rep; rfl) k)⟩
/-- isinstance(e, ValueError) -/
theorem ev_isV {cs : List Str} {n x : Str} {C : Addr} {ad : Addr} {oe : Obj} {pn : List (Addr × Obj)} {p p1 p2 : Pos} (i : Nat) (E : Exs X.K X.mg cs) (hn : n ∈ cs) (hC : X.mg n = some (.ref C)) (hz : Zc (.ref C) none oe) (hf : ∃ vs, oe.data = .fields vs) (hm : X.mg "isinstance" = none) (hmV : X.mg "ValueError" = none)
    (hρ : ρ[i]? = some (some (.ex ad)) := by rfl) (hN : X.N[i]? = some x := by rfl)
    (hv : Vis X.env.scope x := by first | exact Or.inl rfl | exact Or.inr (Or.inl rfl) | exact Or.inr (Or.inr rfl)) (hd : (x == ("__debug__" : Str)) = false := by decide)
    (hcd : (x == ("__classdict__" : Str)) = false := by decide) (hg : Gl X "isinstance" := by rfl) (hgT : Gl X "ValueError" := by rfl)
    (he : starEach (.Name x p1 :: [.Name "ValueError" p2]) X.env = (false, eval (.Name x p1) X.env) :: starEach [.Name "ValueError" p2] X.env := by rfl) (he2 : starEach [.Name "ValueError" p2] X.env = (false, eval (.Name "ValueError" p2) X.env) :: starEach [] X.env := by rfl)
    (hpl : (backTo pos (starEach [.Name "ValueError" p2] X.env)).any (·.1) = false := by rfl) :
    Ev (X.suite ad ((ad, oe) :: pn)) W k (.Call (.Name "isinstance" p) [.Name x p1, .Name "ValueError" p2] [] pos) ρ (.nx (.bl true) : Rs Sw.D) := fun σ H Q hr q => by
  obtain ⟨S, hS, all⟩ := E.se
  obtain ⟨C', hC', ea⟩ := all n hn
  rw [hC] at hC'
  cases hC'
  obtain ⟨v, h1, h2⟩ := hr.get i _ hρ
  unfold Rep at h2
  subst h2
  refine wE.of (pe_callB (call_isE ea.c hz hf) hg hm (by decide +kernel) (pa_cons (pe_var hN hv hd hcd) (pa_cons (pe_bltn (v := .ty "ValueError") hgT hmV (by decide +kernel) rfl) pa_nil he2) he) (by decide) (by decide) he hpl) ?_
  exact ⟨.ref ad, h1, .ty "ValueError", .type "ValueError", _, rfl, fun u r => r, ea.ve, (q : ∀ v H', _) _ H (Same.refl _) (Kd.atom rfl (H2 := H) (by unfold Rep; rfl) k)⟩
/-- try: body / except StairError as n: b0; suite -/
theorem ex_try {cs : List Str} {x : Str} {body suite : List Stmt} {b₀ : Stmt} {np pos' : Pos} {ob : Out β γ} {h : Str → Out β γ} {mkS : γ → List Slot} {g : γ → Out β α} (i : Nat) (xt : List Slot) (hE : Exs X.K X.mg cs) (tk : Takes X W)
    (hb : ∀ (W' : WX) (pn : List (Addr × Obj)) (xe : Value → Shared → Prop), Takes (X.tr pn xe) W' → PassesOwn (model X.prog X.w) X.A X.env xe → Ex (X.tr pn xe) W' xt k body env ob mkS lk)
    (hs : ∀ (a : Addr) (oe : Obj) (pn : List (Addr × Obj)) (n : Str) (C : Addr), n ∈ cs → X.mg n = some (.ref C) → Zc (.ref C) none oe → (∃ vs, oe.data = .fields vs) → Ex (X.suite a ((a, oe) :: pn)) W0 [] k (b₀ :: suite) (xt.set i (.S 0 (.ex a))) (h n) mkS lk)
    (hr : ∀ c, Ex X W xv k rest (mkS c) (g c) mk lk) (hJ : ∀ c, (mkS c)[i]? = some .J) (hlk : ∀ c, (lk c)[i]? = some .J) (hi : Nat.blt i xt.length = true := by rfl) (hxt : xt ≠ [] := by nofun)
    (hN : X.N.Nodup) (hi2 : X.N[i]? = some x := by rfl) (hln : X.env.kindOf x = some .local := by rfl) (hst : X.stack = X.env :: X.outer := by rfl) (hfr : X.env.frame = some X.env.locals := by rfl) (hg : Gl X "StairError" := by rfl) :
    Ex X W xv k (.Try body [.ExceptHandler (some (.Name "StairError" np)) (some x) (b₀ :: suite) pos'] [] [] pos :: rest) env ((tryD cs ob h).bind g) mk lk := fun H0 σ H D hF q => by
  obtain ⟨S, hS, all⟩ := hE.se
  refine wSs.cons (ps_try_as (i := i) (c := .ref S) (tb := fun W' => fun D σ H => ∀ (pn : List (Addr × Obj)) (xe : Value → Shared → Prop), Takes (X.tr pn xe) W' → PassesOwn (model X.prog X.w) X.A X.env xe → wSs (X.tr pn xe) body D σ H)
    (ts := fun a cls d => fun D σ H => ∀ (oe : Obj) (pn : List (Addr × Obj)), Zc cls d oe → (∃ vs, oe.data = .fields vs) → wSs (X.suite a ((a, oe) :: pn)) (b₀ :: suite) D σ H) hst hfr hN hi2 hln ⟨hg, by decide, .inl hS⟩ tk
    (fun W' pn xe t p => ⟨fun pins s σ H D I h => h pn xe t p pins s I⟩) (fun a oe cls d pn z f => ⟨fun pins s σ H D I h => h oe pn z f pins s I⟩)) ?_
  intro pn xe t p
  refine hb _ pn xe t p H0 σ H _ hF ?_
  cases ob with
  | nx c => exact fun σ' H' f => hr c H0 σ' H' D f q
  | rt d => exact q
  | bk d => exact q
  | ct d => exact q
  | err => exact q
  | exc n =>
    intro C hC σ' H' sm fx
    have q : PostS X W xv k H0 D mk lk ((if n ∈ cs then noX (h n) else .err).bind g) := q
    by_cases hn : n ∈ cs
    · rw [if_pos hn] at q
      obtain ⟨C', hC', ea⟩ := all n hn
      have hC : X.mg n = some (.ref C) := hC
      rw [hC] at hC'
      cases hC'
      refine ⟨true, ea.catch', fun _ a ha oe pn' z f => ?_, fun z => Bool.noConfusion z⟩
      have fx : Fr X.K H0 H' σ' xt := fx.resolve_left hxt
      refine hs a oe pn' n C hn hC z f H0 _ H' _ (fx.putEx (Nat.le_of_ble_eq_true hi)) ?_
      cases eh : h n with
      | nx c =>
        rw [eh] at q
        exact fun σ2 H2 f2 => hr c H0 _ H2 D (f2.setJ (hJ c)) q
      | rt d => rw [eh] at q; exact q
      | bk d => rw [eh] at q; exact fun σ2 H2 f2 => (q : ∀ σ' H', _) _ H2 (f2.setJ (hlk d))
      | ct d => rw [eh] at q; exact fun σ2 H2 f2 => (q : ∀ σ' H', _) _ H2 (f2.setJ (hlk d))
      | exc m => rw [eh] at q; exact q.elim
      | err => rw [eh] at q; exact q
    · rw [if_neg hn] at q
      exact q.elim
end
end Sw
namespace Sw
open PySem PySem.Spec PyProof.Rows L2
/-! ### [x for x in y if c], y a slot's own: what is kept goes into the new list -/
def sel {α : Type} : List Bool → List α → List α
  | b :: bs, a :: r => if b = true then a :: sel bs r else sel bs r
  | _, _ => []
theorem sel_snoc {α : Type} : ∀ (bs : List Bool) (l : List α) (b : Bool) (a : α), bs.length = l.length → sel (bs ++ [b]) (l ++ [a]) = sel bs l ++ (if b = true then [a] else [])
  | [], [], b, a, _ => by cases b <;> rfl
  | [], _ :: _, _, _, h => by simp at h
  | _ :: _, [], _, _, h => by simp at h
  | c :: bs, x :: l, b, a, h => by
    have ih := sel_snoc bs l b a (by simpa using h)
    show (if c = true then x :: sel (bs ++ [b]) (l ++ [a]) else sel (bs ++ [b]) (l ++ [a])) = (if c = true then x :: sel bs l else sel bs l) ++ _
    rw [ih]
    cases c <;> simp
theorem AllF.sel {P : D → V → List Addr → Prop} : ∀ {ds : List D} {vs : List V} {F : List Addr} (bs : List Bool), AllF P ds vs F → ∃ G, G.Sublist F ∧ AllF P (Sw.sel bs ds) (Sw.sel bs vs) G
  | [], vs, F, bs, ⟨e, f⟩ => ⟨[], List.nil_sublist _, by rw [e]; cases bs <;> exact ⟨rfl, rfl⟩⟩
  | d :: ds, vs, F, [], _ => ⟨[], List.nil_sublist _, by cases vs <;> exact ⟨rfl, rfl⟩⟩
  | d :: ds, vs, F, b :: bs, ⟨v, vs', F1, F2, e, p, r, eF⟩ => by
    obtain ⟨G, hs, h⟩ := AllF.sel bs r
    subst e
    cases b with
    | true => exact ⟨F1 ++ G, by rw [eF]; exact List.Sublist.append_left hs F1, v, _, F1, G, rfl, p, h, rfl⟩
    | false => exact ⟨G, by rw [eF]; exact hs.trans (List.sublist_append_right _ _), h⟩
section
variable {X : Cx} {W : WX} {env : List Slot}
theorem evM_filt {n : Nat} {d : Sw.D} {y x : Str} {p px p2 pos : Pos} {scope : Scope} {cnd : Expr} {c : Sw.D → Rs Bool} (i ix : Nat) (hN : X.N.Nodup) (ok : BlkOk X.N X.env.scope scope [(x, ix)]) (hib : Nat.blt ix (dat env).length = true)
    (ht : ∀ (s : Shared) (H : Hp) (C : Addr) (cl : List (Str × Addr)) (fp : List Addr) (d : Sw.D), EvT (X.blk s H scope (compEnvC scope cl C X.env) fp) W0 cnd ((dat env).set ix (some d)) (c d))
    (he : ∀ (s : Shared) (H : Hp) (C : Addr) (cl : List (Str × Addr)) (fp : List Addr), PE (X.blk s H scope (compEnvC scope cl C X.env) fp) (.Name x p2) (tVar ix))
    (hg : ∀ (s : Shared) (H : Hp) (C : Addr) (cl : List (Str × Addr)) (fp : List Addr), PG (X.blk s H scope (compEnvC scope cl C X.env) fp) (.Name x px) (gName ix)) (hi : env[i]? = some (.S (n + 1) d) := by rfl) (hNy : X.N[i]? = some y := by rfl)
    (hv : Vis X.env.scope y := by first | exact Or.inl rfl | exact Or.inr (Or.inl rfl) | exact Or.inr (Or.inr rfl)) (hd : (y == ("__debug__" : Str)) = false := by decide)
    (hcd : (y == ("__classdict__" : Str)) = false := by decide) (hcalm : X.calm = true := by rfl)
    (hs : ∀ x, foldedSetIterable (.Name y p) X.env x = pure x := by intro _; rfl) :
    EvM X W (n + 1) (.ListComp (.Name x p2) [⟨.Name x px, .Name y p, [cnd], 0⟩] scope pos) env (env.set i .J) (filtD c d) := fun H0 σ H Q hF q => by
  have hr : RdF X.K H σ (dat env) := hF.rd
  have hix : ix < (dat env).length := Nat.le_of_ble_eq_true hib
  obtain ⟨v, hv0, f⟩ := hF.take hi
  obtain ⟨Hs, F, G, low, up, o, cl, nd, fr⟩ := f.lift0
  refine wE.of (pe_lc (te := tVar ix)
    (tt := fun σ H Q => ∀ (s : Shared) (H' : Hp) (C : Addr) (cl : List (Str × Addr)) (fp : List Addr), wT (X.blk s H' scope (compEnvC scope cl C X.env) fp) cnd σ H Q) hcalm hN (pi_list (pe_var hNy hv hd hcd)) ok hg
    (fun s H C cl fp => pts_one ⟨fun pins s1 σ H1 Q I h => h s H C cl fp pins s1 I⟩) he hs) ?_
  refine ⟨v, hv0, ?_⟩
  cases d with
  | lst ds =>
    obtain ⟨a, vs, F', e, ha, r, eG⟩ := o
    have ru : RepL X.K H ds vs := AllF.repL (fun _ _ _ p => Own.rep up (fun _ _ _ h => h) p) r
    have q1 : (match (if ds.length ≤ sizeLine then ofL (filtL c ds) else .err : Rs Sw.D) with
      | .nx d => ∀ v H', Same H H' → Fr X.K H0 H' (some v :: σ) (.S (n + 1) d :: env.set i .J) → Q v H'
      | .exc m => ∀ C, X.mg m = some (.ref C) → ∀ H', Same H H' → W (.ref C) none σ H'
      | _ => False) := q
    by_cases hz : ds.length ≤ sizeLine
    · rw [if_pos hz] at q1
      refine ⟨a, e, ⟨vs, SqL.of ha⟩, fun Dp hD => ?_⟩
      refine lc_list (K := X.K) (a := a) (xs := vs) (g := gName ix) (tt := fun σ H Q => ∀ (s : Shared) (H' : Hp) (C : Addr) (cl : List (Str × Addr)) (fp : List Addr), wT (X.blk s H' scope (compEnvC scope cl C X.env) fp) cnd σ H Q) (te := tVar ix) (vs := [ix]) (σ := σ) (H1 := H) (D := Dp) (Qd := fun H => Q (.ref Dp) H) (fun j H' => ∃ bs : List Bool, bs.length = j ∧ (sel bs (ds.take j)).length ≤ j ∧ filtL c ds = (filtL c (ds.drop j)).map (sel bs (ds.take j) ++ ·) ∧ Same H H' ∧ H' Dp = some (.lst (sel bs (vs.take j)))) ?_ ?_ ?_ ?_
      · exact ⟨[], rfl, Nat.le_refl _, by simp [sel], same_new hD, upd_same⟩
      · rintro j H' _ ⟨bs, _, _, _, sm, _⟩
        exact SqL.of (sm _ _ ha)
      · rintro j z H' hy ⟨bs, hb, hl, e2, sm, hv2⟩
        have hjv : j < vs.length := (List.getElem?_eq_some_iff.mp hy).1
        have hj : j < ds.length := by rw [← ru.len]; exact hjv
        have hd2 : ds[j]? = some ds[j] := List.getElem?_eq_getElem hj
        have dr : ds.drop j = ds[j] :: ds.drop (j + 1) := List.drop_eq_getElem_cons hj
        obtain ⟨w, hw, rw'⟩ := ru.get hd2
        have ez : vs[j] = z := (List.getElem?_eq_some_iff.mp hy).2
        rw [hy] at hw
        cases hw
        have rr : RdF X.K H' ((wipe σ [ix]).set ix (some z)) ((dat env).set ix (some ds[j])) := (hr.mono sm).bindV hix (Rep.mono sm _ _ rw')
        refine ⟨wipe_set, fun s2 H2 C cl fp => ht s2 H2 C cl fp ds[j] _ H' _ rr ?_⟩
        have td : ds.take (j + 1) = ds.take j ++ [ds[j]] := List.take_succ_eq_append_getElem hj
        have tv : vs.take (j + 1) = vs.take j ++ [z] := by rw [List.take_succ_eq_append_getElem hjv, ez]
        have ld : bs.length = (ds.take j).length := by rw [List.length_take]; omega
        have lv : bs.length = (vs.take j).length := by rw [List.length_take]; omega
        rw [dr] at e2
        have no : filtL c (ds[j] :: ds.drop (j + 1)) ≠ none := fun z => by
          rw [z] at e2
          rw [e2] at q1
          exact q1
        rw [filtL_cons] at no e2
        cases hcd2 : c ds[j] with
        | nx b =>
          rw [hcd2] at no e2
          intro H3 s3
          cases b with
          | false =>
            rw [if_neg Bool.false_ne_true]
            refine ⟨bs ++ [false], by simp [hb], ?_, ?_, sm.trans s3, ?_⟩
            · rw [td, sel_snoc _ _ _ _ ld]; simp; omega
            · rw [td, sel_snoc _ _ _ _ ld]; simpa using e2
            · rw [tv, sel_snoc _ _ _ _ lv]; simpa using s3 _ _ hv2
          | true =>
            rw [if_pos rfl]
            refine ⟨z, ?_, sel bs (vs.take j), s3 _ _ hv2, ?_, bs ++ [true], by simp [hb], ?_, ?_, ?_, ?_⟩
            · rw [List.getElem?_set_self (by rw [wipe_length, hr.len]; exact hix)]
            · have : ∀ (bs : List Bool) (l : List V), (sel bs l).length ≤ l.length := fun bs l => by
                induction l generalizing bs with
                | nil => cases bs <;> simp [sel]
                | cons a l ih =>
                  cases bs with
                  | nil => simp [sel]
                  | cons b bs =>
                    have := ih bs
                    unfold sel
                    split <;> simp <;> omega
              have := this bs (vs.take j)
              rw [List.length_take] at this
              omega
            · rw [td, sel_snoc _ _ _ _ ld]; simp; omega
            · rw [td, sel_snoc _ _ _ _ ld, e2]
              cases filtL c (ds.drop (j + 1)) with
              | none => rfl
              | some r => simp
            · intro b ob hb
              rw [upd_ne (ne_of_none hb hD)]
              exact s3 _ _ (sm _ _ hb)
            · rw [tv, sel_snoc _ _ _ _ lv]
              exact upd_same
        | exc n => rw [hcd2] at no; exact absurd rfl no
        | err => rw [hcd2] at no; exact absurd rfl no
      · rintro H' ⟨bs, hb, hl, e2, sm, hv2⟩
        rw [ru.len, List.drop_length] at e2
        have td : ds.take vs.length = ds := List.take_of_length_le (by rw [ru.len]; exact Nat.le_refl _)
        have tv : vs.take vs.length = vs := List.take_length
        rw [td] at hl
        rw [tv] at hv2
        rw [← ru.len, td] at e2
        have e3 : filtL c ds = some (sel bs ds) := by rw [e2]; simp [filtL]
        rw [e3] at q1
        refine (q1 : ∀ v H', _) (.ref Dp) H' sm ?_
        have thG : ∀ z ∈ F', H z ≠ none := r.there
        have thF : ∀ z ∈ F, H z ≠ none := Cls.there cl
        have keep : ∀ z, H z ≠ none → H' z = H z := fun z hz => by
          cases e : H z with
          | none => exact absurd e hz
          | some x => exact sm z x e
        obtain ⟨G2, hsub, ag⟩ := r.sel bs
        have hDn : ∀ z, H z ≠ none → z ≠ Dp := fun z hz e => hz (e ▸ hD)
        rw [eG] at nd fr
        obtain ⟨n1, n2⟩ := List.nodup_cons.mp nd
        obtain ⟨n3, n4, n5⟩ := List.nodup_append.mp n2
        refine ⟨Hs, (Dp :: G2) ++ F, low, up.trans sm, ⟨.ref Dp, σ, Dp :: G2, F, rfl, ⟨Dp, sel bs vs, G2, rfl, hv2, AllF.impIn (fun d v T m p => Own.congr (Same.refl _) (fun z hz => keep z (thG z (hsub.subset (m z hz)))) p) ag, rfl⟩, Cls.congr (Same.refl _) (fun z m => keep z (thF z m)) cl, rfl⟩, ?_, ?_⟩
        · refine List.nodup_cons.mpr ⟨fun m => ?_, List.nodup_append.mpr ⟨n3.sublist hsub, n4, fun a ha b hb => n5 a (hsub.subset ha) b hb⟩⟩
          have m : Dp ∈ G2 ++ F := m
          rcases List.mem_append.mp m with m | m
          · exact hDn Dp (thG Dp (hsub.subset m)) rfl
          · exact hDn Dp (thF Dp m) rfl
        · intro z m
          have m : z ∈ Dp :: (G2 ++ F) := m
          rcases List.mem_cons.mp m with m | m
          · rw [m]; exact up.free hD
          · rcases List.mem_append.mp m with m | m
            · exact fr z (by simp [hsub.subset m])
            · exact fr z (by simp [m])
    · rw [if_neg hz] at q1
      exact q1.elim
  | _ => exact q.elim
end
end Sw
namespace Sw
open PySem PySem.Spec PyProof.Rows L2
section
variable {X : Cx} {W : WX} {env env' : List Slot}
theorem Fr.topRep {H0 H : Hp} {σ : Sg} {n : Nat} {d : D} {v : V} (h : Fr X.K H0 H (some v :: σ) (.S n d :: env)) : Rep X.K H d v := by
  obtain ⟨w, h1, h2⟩ := h.rd.get 0 d rfl
  simp at h1
  rw [h1]
  exact h2
/-- a op b, b changes slots -/
theorem evP_opR {n : Nat} {op : Operator} {g : Int → Int → Int} {a b : Expr} {pos : Pos} {oa ob : Rs D} (ho : OpR X (binaryOp op) (rI0 fun i j => .int (g i j))) (hf : ∀ k, Op2 X (rI0 fun i j => .int (g i j)) k (intD g)) (ha : Ev X W .R a (dat env) oa) (hb : EvP X W 0 b env env' ob) :
    EvP X W n (.BinOp a op b pos) env env' (oa.bind fun x => (at? x).bind fun x => ob.bind fun y => intD g x y) := fun H0 σ H Q hF q => by
  refine wE.of (pe_op ho (wE.pe X a) (wE.pe X b)) ?_
  show wE X a σ H _
  refine ha σ H _ hF.rd ?_
  cases oa with
  | nx x =>
    intro v H1 s1 rx
    have rx : Rep X.K H1 x v := rx
    by_cases c : x.atom = true
    · have q : (match ((if x.atom = true then (.nx x : Rs D) else .err).bind fun x => ob.bind fun y => intD g x y : Rs D) with
        | .nx d => ∀ v H', Fr X.K H0 H' (some v :: σ) (.S n d :: env') → Q v H'
        | .exc m => ∀ C, X.mg m = some (.ref C) → ∀ H', Same H H' → W (.ref C) none σ H'
        | _ => False) := q
      rw [if_pos c] at q
      show wE X b σ H1 _
      refine hb H0 σ H1 _ (hF.grow s1) ?_
      cases ob with
      | nx y =>
        intro w H2 f2
        have q : (match (intD g x y : Rs D) with
          | .nx d => ∀ v H', Fr X.K H0 H' (some v :: σ) (.S n d :: env') → Q v H'
          | .exc m => ∀ C, X.mg m = some (.ref C) → ∀ H', Same H H' → W (.ref C) none σ H'
          | _ => False) := q
        refine hf (.O n) W σ H2 Q x y v w (rep_atom c rx) f2.topRep ?_
        cases e : intD g x y with
        | nx d => rw [e] at q; exact fun v H' sm s => q v H' (f2.pop0.push sm s)
        | exc m => cases x <;> cases y <;> cases e
        | err => rw [e] at q; exact q
      | exc m => exact fun C hC H' sm => q C hC H' (s1.trans sm)
      | err => exact q
    · have q : (match ((if x.atom = true then (.nx x : Rs D) else .err).bind fun x => ob.bind fun y => intD g x y : Rs D) with
        | .nx d => ∀ v H', Fr X.K H0 H' (some v :: σ) (.S n d :: env') → Q v H'
        | .exc m => ∀ C, X.mg m = some (.ref C) → ∀ H', Same H H' → W (.ref C) none σ H'
        | _ => False) := q
      rw [if_neg c] at q
      exact q.elim
  | exc m => exact q
  | err => exact q
/-- a op b, a changes slots -/
theorem evP_opL {n : Nat} {op : Operator} {g : Int → Int → Int} {a b : Expr} {pos : Pos} {oa ob : Rs D} (ho : OpR X (binaryOp op) (rI0 fun i j => .int (g i j))) (hf : ∀ k, Op2 X (rI0 fun i j => .int (g i j)) k (intD g)) (ha : EvP X W 0 a env env' oa) (hb : Ev X W .R b (dat env') ob) (hno : ∀ m, ob ≠ .exc m := by nofun) :
    EvP X W n (.BinOp a op b pos) env env' (oa.bind fun x => ob.bind fun y => intD g x y) := fun H0 σ H Q hF q => by
  refine wE.of (pe_op ho (wE.pe X a) (wE.pe X b)) ?_
  show wE X a σ H _
  refine ha H0 σ H _ hF ?_
  cases oa with
  | nx x =>
    intro v H1 f1
    show wE X b σ H1 _
    refine hb σ H1 _ f1.pop0.rd ?_
    cases ob with
    | nx y =>
      intro w H2 s2 ry
      have q : (match (intD g x y : Rs D) with
        | .nx d => ∀ v H', Fr X.K H0 H' (some v :: σ) (.S n d :: env') → Q v H'
        | .exc m => ∀ C, X.mg m = some (.ref C) → ∀ H', Same H H' → W (.ref C) none σ H'
        | _ => False) := q
      refine hf (.O n) W σ H2 Q x y v w (Rep.mono s2 _ _ f1.topRep) ry ?_
      cases e : intD g x y with
      | nx d => rw [e] at q; exact fun v H' sm s => q v H' ((f1.pop0.grow s2).push sm s)
      | exc m => cases x <;> cases y <;> cases e
      | err => rw [e] at q; exact q
    | exc m => exact absurd rfl (hno m)
    | err => exact q
  | exc m => exact q
  | err => exact q
end
end Sw
namespace Sw
open PySem PySem.Spec PyProof.Rows L2
section
variable {X : Cx} {W : WX} {k : Kd} {ρ : List (Option D)} {a b : Expr} {pos : Pos}
/-! ### wide numbers -/
def divWD : D → D → Rs D := intC (fun _ j => decide (0 < j) && decide (j.natAbs.log2 < 9000)) (· / ·)
theorem ev_divW {oa ob : Rs D} (ha : Ev X W .R a ρ oa) (hb : Ev X W .R b ρ ob) : Ev X W k (.BinOp a .FloorDiv b pos) ρ (oa.bind fun x => ob.bind fun y => divWD x y) :=
  ev_op op_fdivW (op2_intC fun i j h => by
    simp only [Bool.and_eq_true, decide_eq_true_eq] at h
    exact h) ha hb
end
end Sw

/- part SwMin -/
namespace Sw
open PySem PySem.Spec PyProof.Rows L2
/-! min(xs, default=d) of a list of ints; int(flag) -/
theorem lt_int (i j : Int) : PySem.W.dataLt (.int i) (.int j) = decide (i < j) := by
  unfold PySem.W.dataLt
  simp [PySem.W.keyToks, PyProof.Rows.lexLt]
  rfl
theorem depthAll_ints : ∀ ns : List Int, PyData.depthAll (ns.map PyData.int) = 0
  | [] => by simp [PyData.depthAll]
  | n :: ns => by simp [PyData.depthAll, PyData.depth, depthAll_ints ns]
theorem readsAll_ints {h : Heap} : ∀ {its : List Value} {ns : List Int}, IntsAre its ns → ∃ as, ReadsAll h its (ns.map PyData.int) as
  | _, [], h => by
    cases h
    exact ⟨_, .nil⟩
  | _, n :: ns, h => by
    cases h
    rename_i r
    obtain ⟨as, q⟩ := readsAll_ints r
    exact ⟨_, .cons (.int _ _) q⟩
theorem fold_ints : ∀ (ns : List Int) (x : Int), ∃ m, (ns.map PyData.int).foldl (fun a y => if PySem.W.dataLt y a then y else a) (PyData.int x) = .int m ∧ m ∈ x :: ns ∧ ∀ y ∈ x :: ns, m ≤ y
  | [], x => ⟨x, rfl, by simp, by simp⟩
  | n :: ns, x => by
    rw [List.map_cons, List.foldl_cons, lt_int]
    by_cases c : n < x
    · obtain ⟨m, h1, h2, h3⟩ := fold_ints ns n
      refine ⟨m, by simpa [c] using h1, ?_, fun y hy => ?_⟩
      · rcases List.mem_cons.mp h2 with e | e
        · subst e; simp
        · simp [e]
      · have hn := h3 n (.head _)
        rcases List.mem_cons.mp hy with e | e
        · omega
        · rcases List.mem_cons.mp e with e | e
          · omega
          · exact h3 y (.tail _ e)
    · obtain ⟨m, h1, h2, h3⟩ := fold_ints ns x
      refine ⟨m, by simpa [c] using h1, ?_, fun y hy => ?_⟩
      · rcases List.mem_cons.mp h2 with e | e
        · subst e; simp
        · simp [e]
      · have hn := h3 x (.head _)
        rcases List.mem_cons.mp hy with e | e
        · omega
        · rcases List.mem_cons.mp e with e | e
          · omega
          · exact h3 y (.tail _ e)
def rMinDef (K : PySem.W.Frag) : List V → List V → Hp → VK → Prop := fun vs zs H Q => ∃ (a : Addr) (ns : List Int) (z : Int), vs = [V.ref a] ∧ zs = [V.int z] ∧ SqL K H a (ns.map V.int) ∧ ∀ m, (m ∈ ns ∧ (∀ y, y ∈ ns → m ≤ y)) ∨ (ns = [] ∧ m = z) → Q (.int m) H
section
variable {X : Cx}
theorem cr_minDef (hc : X.calm = true) (hu : X.A.units + 1 < cLine) : CallRK X (.builtin "min") [Str.ofString "default"] (rMinDef X.K) := by
  intro pins s σ H vs zs us ws Q I r rz h
  obtain ⟨a, ns, z, rfl, rfl, hs, q⟩ := h
  obtain ⟨its, rv, hl, _⟩ := I.list hs
  obtain rfl := Vals.ref1 r
  obtain ⟨w1, rfl, t, rfl⟩ := vals1 rz
  obtain ⟨as, hra⟩ := readsAll_ints (h := s.heap) rv.ints
  refine PySem.W.min_list_default (xs := ns.map PyData.int) (as := as) (I.ok.hd hc) hl.isList (by simpa using hra) ⟨fun x hx y hy => ?_, fun x hx => ?_⟩ (by rw [depthAll_ints]; omega) (fun h0 h' tk hk => ?_) (fun y ys i v h' tk bs hxs hv hrd hk => ?_)
  · obtain ⟨i, _, rfl⟩ := List.mem_map.mp hx
    obtain ⟨j, _, rfl⟩ := List.mem_map.mp hy
    rfl
  · obtain ⟨i, _, rfl⟩ := List.mem_map.mp hx
    intro e
    cases e
  · have : ns = [] := by simpa using h0
    exact ⟨.int z, H, I.kept hk, ⟨_, rfl⟩, q z (.inr ⟨this, rfl⟩)⟩
  · cases ns with
    | nil => cases hxs
    | cons n ns =>
      rw [List.map_cons] at hxs
      injection hxs with e1 e2
      subst e1 e2
      obtain ⟨m, h1, h2, h3⟩ := fold_ints ns n
      unfold PySem.W.minD at hrd
      rw [h1] at hrd
      cases hrd
      exact ⟨.int m, H, I.kept hk, ⟨_, rfl⟩, q m (.inl ⟨h2, h3⟩)⟩
end
def mindD (z : Int) : List D → Rs D := listI (fun _ => true) fun ns => .int (if 0 < ns.length then minL ns else z)
def intoD : List D → Rs D
  | [.int i] => .nx (.int i)
  | [.bl b] => .nx (.int (if b then 1 else 0))
  | _ => .err
theorem call_intoD {X : Cx} {k : Kd} : Call1 X (fun xs H Q => (∃ i, xs = [.int i] ∧ Q (.int i) H) ∨ ∃ k, xs = [.bl k] ∧ Q (.int (if k then 1 else 0)) H) k intoD := fun W σ H Q ds vs r q => by
  unfold intoD at q
  split at q
  · obtain ⟨v, e, r1⟩ := repL1 r
    unfold Rep at r1
    exact .inl ⟨_, by rw [e, r1], (q : ∀ v H', _) _ H (Same.refl _) (Kd.atom rfl (H2 := H) (by unfold Rep; rfl) k)⟩
  · obtain ⟨v, e, r1⟩ := repL1 r
    unfold Rep at r1
    exact .inr ⟨_, by rw [e, r1], (q : ∀ v H', _) _ H (Same.refl _) (Kd.atom rfl (H2 := H) (by unfold Rep; rfl) k)⟩
  · exact q.elim
section
variable {X : Cx} {W : WX} {k : Kd} {ρ : List (Option D)} {a : Expr} {oa : Rs D} {p pos : Pos}
theorem ev_int1 (m : Bi X.mg) (ha : Ev X W .R a ρ oa) (hg : Gl X "int" := by rfl) (hs : starEach (a :: []) X.env = (false, eval a X.env) :: starEach [] X.env := by rfl) (hpl : (backTo pos (starEach [] X.env)).any (·.1) = false := by rfl) :
    Ev X W k (.Call (.Name "int" p) [a] [] pos) ρ (oa.bind fun x => intoD [x]) := (ev_callTy call_int1 call_intoD m.int (by decide +kernel) (evL1 ha hs) hg (by decide) (by decide) hs hpl).eq bind_one
theorem ev_mind {z : Int} {j : Nat} {cp kp : Pos} (m : Bi X.mg) (hu : X.A.units + 64 < cLine) (ha : Ev X W .R a ρ oa) (hc : X.calm = true := by rfl) (hg : Gl X "min" := by rfl) (hs : starEach (a :: []) X.env = (false, eval a X.env) :: starEach [] X.env := by rfl)
    (he : backTo pos (starEach (a :: []) X.env) = (false, eval a X.env) :: backTo pos (starEach [] X.env) := by rfl) (hpl : (backTo pos (starEach (a :: []) X.env)).any (·.1) = false := by rfl) :
    Ev X W k (.Call (.Name "min" p) [a] [⟨some "default", .Constant (.int z) j cp, kp⟩] pos) ρ (oa.bind fun x => mindD z [x]) := by
  have h0 : Ev X W k (.Call (.Name "min" p) [a] [⟨some "default", .Constant (.int z) j cp, kp⟩] pos) ρ ((oa.bind fun x => Rs.nx [x]).bind (mindD z)) := fun σ H Q hr q => by
    refine wE.of (pe_callBK (cr_minDef hc (by omega)) hg m.min (by decide +kernel) (wA.pa X [a]) (pk_cons pe_int pk_nil) (by decide) (by decide) he hpl) ?_
    show wA X [a] σ H _
    refine (evL1 ha hs).then hr q fun ds vs H1 s1 rs q1 => ?_
    obtain ⟨l, ns, e, hq, _, q2⟩ := listI_shape rs q1
    refine ⟨l, ns, z, e, rfl, hq, fun mm hm => ?_⟩
    have e1 : (if 0 < ns.length then minL ns else z) = mm := by
      rcases hm with ⟨h1, h2⟩ | ⟨h1, h2⟩
      · have hp : 0 < ns.length := by
          cases ns with
          | nil => cases h1
          | cons _ _ => simp
        rw [if_pos hp]
        exact Int.le_antisymm ((minL_mem ns hp).2 mm h1) (h2 _ (minL_mem ns hp).1)
      · subst h1 h2
        rfl
    rw [← e1]
    exact (q2 : ∀ v H', _) _ H1 (Same.refl _) (Kd.atom rfl (H2 := H1) (by unfold Rep; rfl) k)
  exact h0.eq bind_one
end
end Sw

/- part SwFor -/
/-! Loops over what an owned slot holds, that only read it. -/
namespace Sw
open PySem PySem.Spec PyProof.Rows L2
theorem RdF.setV {K : PySem.W.Frag} {H : Hp} {σ : Sg} {ρ : List (Option D)} {ix : Nat} {d : D} {z : V} (h : RdF K H σ ρ) (hz : σ[ix]? = some (some z)) (r : Rep K H d z) : RdF K H σ (ρ.set ix (some d)) := ⟨by rw [h.len, List.length_set], fun i d' hd => by
  by_cases c : ix = i
  · subst c
    have hl : ix < ρ.length := by rw [← h.len]; exact (List.getElem?_eq_some_iff.mp hz).1
    rw [List.getElem?_set_self hl] at hd
    cases hd
    exact ⟨z, hz, r⟩
  · rw [List.getElem?_set_ne c] at hd
    exact h.get i d' hd⟩
section
variable {X : Cx} {W : WX} {xv : List Slot} {k : Kd} {α β S : Type} {env : List Slot} {mk : α → List Slot} {lk : β → List Slot} {mkS : S → List Slot} {rest : List Stmt} {pos : Pos}
def PostQ (X : Cx) (W : WX) (xv : List Slot) (k : Kd) (H0 H : Hp) (D : Ends) {S : Type} (mkS : S → List Slot) : Out S S → Prop
  | .nx a => ∀ σ' H', Same H H' → Fr X.K H0 H' σ' (mkS a) → D.nx σ' H'
  | .rt d => ∀ v H', Same H0 H' → k.sat X.K H0 H' d v → D.rt v H'
  | .exc n => ∀ C, X.mg n = some (.ref C) → ∀ σ' H', Same H0 H' → (xv = [] ∨ Fr X.K H0 H' σ' xv) → W (.ref C) none σ' H'
  | _ => False
/-- a body that reads the loop's name at ix -/
def BodyQ (X : Cx) (W : WX) (xv : List Slot) (k : Kd) (ix : Nat) (body : List Stmt) {S : Type} (mkS : S → List Slot) (b : D → S → Out S S) : Prop :=
  ∀ d s H0 σ H D z, Fr X.K H0 H σ (mkS s) → σ[ix]? = some (some z) → Rep X.K H d z → PostQ X W xv k H0 H D mkS (b d s) → wSs X body D σ H
/-- if test: return a constant -/
theorem bodyQ_if {ix : Nat} {test : Expr} {A : List Stmt} {c : D → Rs Bool} {rd : D} {mkU : Unit → List Slot} (ht : ∀ d, EvT X W test ((dat (mkU ())).set ix (some d)) (c d)) (ha : Ex X W xv k A (mkU ()) ((Rs.nx rd).to Out.rt : Out Unit Unit) mkU mkU)
    (hx : XOk (mkU ()) xv := by first | exact Or.inl rfl | exact Or.inr (by repeat (first | exact Wk.nil | refine Wk.keep ?_ | refine Wk.drop ?_))) :
    BodyQ X W xv k ix [.If test A [] pos] mkU (fun d (_ : Unit) => ((c d).to fun b => if b = true then ((Rs.nx rd).to Out.rt) else (Out.nx ())).bind fun (_ : Unit) => (Out.nx ())) := fun d s H0 σ H D z hF hz hr q => by
  cases s
  refine wSs.of (pss_one (ps_if (wT.pt X test) (wSs.pss X A) pss_nil)) ?_
  show wT X test σ H _
  refine ht d σ H _ (hF.rd.setV hz hr) ?_
  dsimp only at q
  cases e : c d with
  | nx b =>
    intro H' sm
    rw [e] at q
    cases b with
    | true =>
      have q : ∀ v H', Same H0 H' → k.sat X.K H0 H' rd v → D.rt v H' := q
      rw [if_pos rfl]
      exact ha H0 σ H' D (hF.grow sm) q
    | false =>
      have q : ∀ σ' H', Same H H' → Fr X.K H0 H' σ' (mkU ()) → D.nx σ' H' := q
      rw [if_neg (by simp)]
      exact q σ H' sm (hF.grow sm)
  | exc m =>
    rw [e] at q
    exact fun C hC H' sm => (q : ∀ C, X.mg m = some (.ref C) → ∀ σ' H', Same H0 H' → (xv = [] ∨ Fr X.K H0 H' σ' xv) → W (.ref C) none σ' H') C hC σ H' (hF.same.trans sm) ((hF.grow sm).toXv hx)
  | err =>
    rw [e] at q
    exact (q : False).elim
/-- y = e, a new thing -/
theorem bodyQ_set {ix i n : Nat} {y : Str} {e : Expr} {p : Pos} {f : D → D → Rs D} {mk1 : D → List Slot} (he : ∀ d s, Ev X W (.O n) e ((dat (mk1 s)).set ix (some d)) (f d s)) (hp : ∀ te, PE X e te → PS X (.Assign [.Name y p] e pos) (tAsg te (gName i)))
    (hi : ∀ s, i < (mk1 s).length) (hm : ∀ s d, (mk1 s).set i (.S n d) = mk1 d) (hx : ∀ s, XOk (mk1 s) xv := by intro s; first | exact Or.inl rfl | exact Or.inr (by repeat (first | exact Wk.nil | refine Wk.keep ?_ | refine Wk.drop ?_))) :
    BodyQ X W xv k ix [.Assign [.Name y p] e pos] mk1 (fun d s => ((f d s).to fun y => (Out.nx y))) := fun d s H0 σ H D z hF hz hr q => by
  refine wSs.of (pss_one (hp _ (wE.pe X e))) ?_
  show wE X e σ H _
  refine he d s σ H _ (hF.rd.setV hz hr) ?_
  dsimp only at q
  cases eo : f d s with
  | nx y =>
    rw [eo] at q
    have q : ∀ σ' H', Same H H' → Fr X.K H0 H' σ' (mk1 y) → D.nx σ' H' := q
    exact fun v H' sm sat => q _ H' sm (by
      have := (hF.push sm sat).store (i := i) (hi s)
      rwa [hm] at this)
  | exc m =>
    rw [eo] at q
    exact fun C hC H' sm => (q : ∀ C, X.mg m = some (.ref C) → ∀ σ' H', Same H0 H' → (xv = [] ∨ Fr X.K H0 H' σ' xv) → W (.ref C) none σ' H') C hC σ H' (hF.same.trans sm) ((hF.grow sm).toXv (hx s))
  | err =>
    rw [eo] at q
    exact (q : False).elim
theorem ex_forQ {iter : Expr} {x : Str} {p : Pos} {body : List Stmt} {oi : Rs D} {s0 : S} {b : D → S → Out S S} {g : S → Out β α} (ix : Nat) (hit : Ev X W .R iter (dat env) oi) (hw : Wk env (mkS s0))
    (hb : BodyQ X W xv k ix body mkS b) (hJ : ∀ s, (mkS s)[ix]? = some .J) (hr : ∀ s, Ex X W xv k rest (mkS s) (g s) mk lk)
    (hpo : PassesOwn (model X.prog X.w) X.A X.env X.xe) (hg : PG X (.Name x p) (gName ix)) (hnb : ∀ d s, (∀ t, b d s ≠ .ct t) ∧ ∀ t, b d s ≠ .bk t) (hcalm : X.calm = true := by rfl) (hx : XOk env xv := by first | exact Or.inl rfl | exact Or.inr (by repeat (first | exact Wk.nil | refine Wk.keep ?_ | refine Wk.drop ?_))) (hfs : ∀ y, foldedSetIterable iter X.env y = pure y := by intro _; rfl) :
    Ex X W xv k (.For (.Name x p) iter body [] pos :: rest) env ((oi.to fun d => (seqD d).to fun ds => forL b ds s0).bind g) mk lk := fun H0 σ H D hF q => by
  refine wSs.cons (ps_for hpo hcalm (pi_list (wE.pe X iter)) hg (wSs.pss X body) hfs) ?_
  show wE X iter σ H _
  have q' : PostS X W xv k H0 { D with nx := wSs X rest D } mkS lk (oi.to fun d => (seqD d).to fun ds => forL b ds s0) := q.first (fun s p σ' H' f => hr s H0 σ' H' D f p) rfl rfl rfl
  refine hit.first hF hx q' fun d v H1 s1 f1 q1 => ?_
  cases d with
  | lst ds =>
    have q1 : PostS X W xv k H0 { D with nx := wSs X rest D } mkS lk (forL b ds s0 : Out β S) := q1
    have r : Rep X.K H1 (.lst ds) v := f1
    unfold Rep at r
    obtain ⟨a, vs, e, ha, ru⟩ := r
    refine ⟨a, e, ⟨vs, SqL.of ha⟩, ?_⟩
    refine for_it (walk_list (K := X.K) (a := a) (xs := vs)) (g := gName ix) (tb := wSs X body) (fun i σ H => ∃ s, Same H1 H ∧ Fr X.K H0 H σ (mkS s) ∧ PostS X W xv k H0 { D with nx := wSs X rest D } mkS lk (forL b (ds.drop i) s : Out β S)) ⟨s0, Same.refl _, Fr.wk (hF.grow s1) hw, q1⟩ ?_ ?_ ?_
    · rintro i σ H _ ⟨s, sm, _, _⟩
      exact SqL.of (sm _ _ ha)
    · rintro i z σ H H' hi ⟨s, sm, f, p⟩ yy
      obtain ⟨eH, hz⟩ := yy
      subst eH
      have hi' : i < ds.length := by rw [← ru.len]; exact hi
      rw [List.drop_eq_getElem_cons hi', forL_cons] at p
      obtain ⟨u, hu, rr⟩ := ru.get (List.getElem?_eq_getElem hi')
      rw [hz] at hu
      cases hu
      have hlσ : ix < σ.length := by
        obtain ⟨Hs', F', y'⟩ := f
        have h1 := y'.cls.len
        have h2 := (List.getElem?_eq_some_iff.mp (hJ s)).1
        omega
      refine hb ds[i] s H0 _ H' _ z (f.setJ (hJ s)) (List.getElem?_set_self hlσ) (Rep.mono sm _ _ rr) ?_
      have nb := hnb ds[i] s
      cases eb : b ds[i] s with
      | nx s' => rw [eb] at p; exact fun σ' H'' sm2 f => ⟨s', sm.trans sm2, f, p⟩
      | ct s' => exact (nb.1 s' eb).elim
      | bk s' => exact (nb.2 s' eb).elim
      | rt d => rw [eb] at p; exact p
      | exc m => rw [eb] at p; exact p
      | err => rw [eb] at p; exact p
    · rintro σ H ⟨s, _, f, p⟩
      rw [ru.len, List.drop_length] at p
      exact (p : ∀ σ' H', Fr X.K H0 H' σ' (mkS s) → _) σ H f
  | _ => exact q1.elim
/-- for x in xs: if test: return a constant -/
theorem ex_forChk {iter test : Expr} {A : List Stmt} {x : Str} {p p1 : Pos} {oi : Rs D} {c : D → Rs Bool} {rd : D} {g : Unit → Out β α} {mkU : Unit → List Slot} (ix : Nat) (hit : Ev X W .R iter (dat env) oi) (hw : Wk env (mkU ()))
    (ht : ∀ d, EvT X W test ((dat (mkU ())).set ix (some d)) (c d)) (ha : Ex X W xv k A (mkU ()) ((Rs.nx rd).to Out.rt : Out Unit Unit) mkU mkU) (hr : ∀ s, Ex X W xv k rest (mkU s) (g s) mk lk)
    (hpo : PassesOwn (model X.prog X.w) X.A X.env X.xe) (hg : PG X (.Name x p) (gName ix)) (hJ : (mkU ())[ix]? = some .J := by rfl) (hcalm : X.calm = true := by rfl) (hx : XOk env xv := by first | exact Or.inl rfl | exact Or.inr (by repeat (first | exact Wk.nil | refine Wk.keep ?_ | refine Wk.drop ?_))) (hx2 : XOk (mkU ()) xv := by first | exact Or.inl rfl | exact Or.inr (by repeat (first | exact Wk.nil | refine Wk.keep ?_ | refine Wk.drop ?_))) (hfs : ∀ y, foldedSetIterable iter X.env y = pure y := by intro _; rfl) :
    Ex X W xv k (.For (.Name x p) iter [.If test A [] p1] [] pos :: rest) env ((oi.to fun d => (seqD d).to fun ds => forL (fun (d : D) (_ : Unit) => ((c d).to fun b => if b = true then ((Rs.nx rd).to Out.rt) else (Out.nx ())).bind fun (_ : Unit) => (Out.nx ())) ds ()).bind g) mk lk :=
  ex_forQ ix hit hw (bodyQ_if ht ha hx2) (fun _ => hJ) hr hpo hg (fun d s => by
    cases c d with
    | nx b => cases b <;> exact ⟨fun t e => (by cases e), fun t e => (by cases e)⟩
    | exc m => exact ⟨fun t e => (by cases e), fun t e => (by cases e)⟩
    | err => exact ⟨fun t e => (by cases e), fun t e => (by cases e)⟩) hcalm hx hfs
/-- for x in xs: y = a new thing -/
theorem ex_forCat {iter e : Expr} {x y : Str} {p p1 p2 : Pos} {oi : Rs D} {f : D → D → Rs D} {g : D → Out β α} {mk1 : D → List Slot} {s0 : D} (ix i n : Nat) (hit : Ev X W .R iter (dat env) oi) (hw : Wk env (mk1 s0))
    (he : ∀ d s, Ev X W (.O n) e ((dat (mk1 s)).set ix (some d)) (f d s)) (hp : ∀ te, PE X e te → PS X (.Assign [.Name y p1] e p2) (tAsg te (gName i))) (hr : ∀ s, Ex X W xv k rest (mk1 s) (g s) mk lk)
    (hpo : PassesOwn (model X.prog X.w) X.A X.env X.xe) (hg : PG X (.Name x p) (gName ix)) (hi : ∀ s, Nat.blt i (mk1 s).length = true := by intro _; rfl) (hm : ∀ s d, (mk1 s).set i (.S n d) = mk1 d := by intro _ _; rfl) (hJ : ∀ s, (mk1 s)[ix]? = some .J := by intro _; rfl) (hcalm : X.calm = true := by rfl) (hx : XOk env xv := by first | exact Or.inl rfl | exact Or.inr (by repeat (first | exact Wk.nil | refine Wk.keep ?_ | refine Wk.drop ?_))) (hx2 : ∀ s, XOk (mk1 s) xv := by intro s; first | exact Or.inl rfl | exact Or.inr (by repeat (first | exact Wk.nil | refine Wk.keep ?_ | refine Wk.drop ?_))) (hfs : ∀ y, foldedSetIterable iter X.env y = pure y := by intro _; rfl) :
    Ex X W xv k (.For (.Name x p) iter [.Assign [.Name y p1] e p2] [] pos :: rest) env ((oi.to fun d => (seqD d).to fun ds => forL (fun (d : D) (s : D) => ((f d s).to fun y => (Out.nx y))) ds s0).bind g) mk lk :=
  ex_forQ ix hit hw (bodyQ_set he hp (fun s => Nat.le_of_ble_eq_true (hi s)) hm hx2) hJ hr hpo hg (fun d s => by
    cases f d s with
    | nx b => exact ⟨fun t e => (by cases e), fun t e => (by cases e)⟩
    | exc m => exact ⟨fun t e => (by cases e), fun t e => (by cases e)⟩
    | err => exact ⟨fun t e => (by cases e), fun t e => (by cases e)⟩) hcalm hx hfs
end
end Sw

/- part SwMax -/
namespace Sw
open PySem PySem.Spec PyProof.Rows L2
/-! max(xs, default=d) of a list of ints -/
theorem fold_intsM : ∀ (ns : List Int) (x : Int), ∃ m, (ns.map PyData.int).foldl (fun a y => if PySem.W.dataLt a y then y else a) (PyData.int x) = .int m ∧ m ∈ x :: ns ∧ ∀ y ∈ x :: ns, y ≤ m
  | [], x => ⟨x, rfl, by simp, by simp⟩
  | n :: ns, x => by
    rw [List.map_cons, List.foldl_cons, lt_int]
    by_cases c : x < n
    · obtain ⟨m, h1, h2, h3⟩ := fold_intsM ns n
      refine ⟨m, by simpa [c] using h1, ?_, fun y hy => ?_⟩
      · rcases List.mem_cons.mp h2 with e | e
        · subst e; simp
        · simp [e]
      · have hn := h3 n (.head _)
        rcases List.mem_cons.mp hy with e | e
        · omega
        · rcases List.mem_cons.mp e with e | e
          · omega
          · exact h3 y (.tail _ e)
    · obtain ⟨m, h1, h2, h3⟩ := fold_intsM ns x
      refine ⟨m, by simpa [c] using h1, ?_, fun y hy => ?_⟩
      · rcases List.mem_cons.mp h2 with e | e
        · subst e; simp
        · simp [e]
      · have hn := h3 x (.head _)
        rcases List.mem_cons.mp hy with e | e
        · omega
        · rcases List.mem_cons.mp e with e | e
          · omega
          · exact h3 y (.tail _ e)
def rMaxDef (K : PySem.W.Frag) : List V → List V → Hp → VK → Prop := fun vs zs H Q => ∃ (a : Addr) (ns : List Int) (z : Int), vs = [V.ref a] ∧ zs = [V.int z] ∧ SqL K H a (ns.map V.int) ∧ ∀ m, (m ∈ ns ∧ (∀ y, y ∈ ns → y ≤ m)) ∨ (ns = [] ∧ m = z) → Q (.int m) H
section
variable {X : Cx}
theorem cr_maxDef (hc : X.calm = true) (hu : X.A.units + 1 < cLine) : CallRK X (.builtin "max") [Str.ofString "default"] (rMaxDef X.K) := by
  intro pins s σ H vs zs us ws Q I r rz h
  obtain ⟨a, ns, z, rfl, rfl, hs, q⟩ := h
  obtain ⟨its, rv, hl, _⟩ := I.list hs
  obtain rfl := Vals.ref1 r
  obtain ⟨w1, rfl, t, rfl⟩ := vals1 rz
  obtain ⟨as, hra⟩ := readsAll_ints (h := s.heap) rv.ints
  refine PySem.W.max_list_default (xs := ns.map PyData.int) (as := as) (I.ok.hd hc) hl.isList (by simpa using hra) ⟨fun x hx y hy => ?_, fun x hx => ?_⟩ (by rw [depthAll_ints]; omega) (fun h0 h' tk hk => ?_) (fun y ys i v h' tk bs hxs hv hrd hk => ?_)
  · obtain ⟨i, _, rfl⟩ := List.mem_map.mp hx
    obtain ⟨j, _, rfl⟩ := List.mem_map.mp hy
    rfl
  · obtain ⟨i, _, rfl⟩ := List.mem_map.mp hx
    intro e
    cases e
  · have : ns = [] := by simpa using h0
    exact ⟨.int z, H, I.kept hk, ⟨_, rfl⟩, q z (.inr ⟨this, rfl⟩)⟩
  · cases ns with
    | nil => cases hxs
    | cons n ns =>
      rw [List.map_cons] at hxs
      injection hxs with e1 e2
      subst e1 e2
      obtain ⟨m, h1, h2, h3⟩ := fold_intsM ns n
      unfold PySem.W.maxD at hrd
      rw [h1] at hrd
      cases hrd
      exact ⟨.int m, H, I.kept hk, ⟨_, rfl⟩, q m (.inl ⟨h2, h3⟩)⟩
end
def maxdD (z : Int) : List D → Rs D := listI (fun _ => true) fun ns => .int (if 0 < ns.length then maxL ns else z)
section
variable {X : Cx} {W : WX} {k : Kd} {ρ : List (Option D)} {a : Expr} {oa : Rs D} {p pos : Pos}
theorem ev_maxd {z : Int} {j : Nat} {cp kp : Pos} (m : Bi X.mg) (hu : X.A.units + 64 < cLine) (ha : Ev X W .R a ρ oa) (hc : X.calm = true := by rfl) (hg : Gl X "max" := by rfl) (hs : starEach (a :: []) X.env = (false, eval a X.env) :: starEach [] X.env := by rfl)
    (he : backTo pos (starEach (a :: []) X.env) = (false, eval a X.env) :: backTo pos (starEach [] X.env) := by rfl) (hpl : (backTo pos (starEach (a :: []) X.env)).any (·.1) = false := by rfl) :
    Ev X W k (.Call (.Name "max" p) [a] [⟨some "default", .Constant (.int z) j cp, kp⟩] pos) ρ (oa.bind fun x => maxdD z [x]) := by
  have h0 : Ev X W k (.Call (.Name "max" p) [a] [⟨some "default", .Constant (.int z) j cp, kp⟩] pos) ρ ((oa.bind fun x => Rs.nx [x]).bind (maxdD z)) := fun σ H Q hr q => by
    refine wE.of (pe_callBK (cr_maxDef hc (by omega)) hg m.max (by decide +kernel) (wA.pa X [a]) (pk_cons pe_int pk_nil) (by decide) (by decide) he hpl) ?_
    show wA X [a] σ H _
    refine (evL1 ha hs).then hr q fun ds vs H1 s1 rs q1 => ?_
    obtain ⟨l, ns, e, hq, _, q2⟩ := listI_shape rs q1
    refine ⟨l, ns, z, e, rfl, hq, fun mm hm => ?_⟩
    have e1 : (if 0 < ns.length then maxL ns else z) = mm := by
      rcases hm with ⟨h1, h2⟩ | ⟨h1, h2⟩
      · have hp : 0 < ns.length := by
          cases ns with
          | nil => cases h1
          | cons _ _ => simp
        rw [if_pos hp]
        exact Int.le_antisymm (h2 _ (maxL_mem ns hp).1) ((maxL_mem ns hp).2 mm h1)
      · subst h1 h2
        rfl
    rw [← e1]
    exact (q2 : ∀ v H', _) _ H1 (Same.refl _) (Kd.atom rfl (H2 := H1) (by unfold Rep; rfl) k)
  exact h0.eq bind_one
end
section
variable {X : Cx} {W : WX} {k : Kd} {ρ : List (Option D)} {a b : Expr} {pos : Pos}
def shlD : D → D → Rs D := intC (fun i j => decide (0 ≤ j) && (decide (j ≤ 1000000) && decide (i.natAbs < 2 ^ 64))) (fun i j => i * 2 ^ j.toNat)
theorem ev_shl {oa ob : Rs D} (ha : Ev X W .R a ρ oa) (hb : Ev X W .R b ρ ob) : Ev X W k (.BinOp a .LShift b pos) ρ (oa.bind fun x => ob.bind fun y => shlD x y) :=
  ev_op op_shl (op2_intC fun i j h => by
    simp only [Bool.and_eq_true, decide_eq_true_eq] at h
    exact h) ha hb
def shrD : D → D → Rs D := intC (fun _ j => decide (0 ≤ j)) (fun i j => i / 2 ^ j.toNat)
theorem ev_shr {oa ob : Rs D} (ha : Ev X W .R a ρ oa) (hb : Ev X W .R b ρ ob) : Ev X W k (.BinOp a .RShift b pos) ρ (oa.bind fun x => ob.bind fun y => shrD x y) :=
  ev_op op_shr (op2_intC fun i j h => by simpa using h) ha hb
def bandD : D → D → Rs D := intD Builtin.bitAnd
theorem ev_band {oa ob : Rs D} (ha : Ev X W .R a ρ oa) (hb : Ev X W .R b ρ ob) : Ev X W k (.BinOp a .BitAnd b pos) ρ (oa.bind fun x => ob.bind fun y => bandD x y) := ev_op op_and op2_int ha hb
end
end Sw

/- part SwIO -/
/-! A def that changes its second argument in place. -/
namespace Sw
open PySem PySem.Spec PyProof.Rows L2
/-- the heap without the places F -/
def wo (H : Hp) (F : List Addr) : Hp := fun a => if a ∈ F then none else H a
theorem wo_in {H : Hp} {F : List Addr} {a : Addr} (h : a ∈ F) : wo H F a = none := if_pos h
theorem wo_out {H : Hp} {F : List Addr} {a : Addr} (h : a ∉ F) : wo H F a = H a := if_neg h
theorem wo_same {H : Hp} {F : List Addr} : Same (wo H F) H := fun a o e => by
  by_cases c : a ∈ F
  · rw [wo_in c] at e; cases e
  · rwa [wo_out c] at e
theorem same_wo {Hs H : Hp} {F : List Addr} (sm : Same Hs H) (fr : ∀ a ∈ F, Hs a = none) : Same Hs (wo H F) := fun a o e => by
  by_cases c : a ∈ F
  · rw [fr a c] at e; cases e
  · rw [wo_out c]; exact sm a o e
/-- what a def that changes its second argument keeps -/
def spI (K : PySem.W.Frag) (n : Nat) (g : List D → Out Unit D) : Sp := fun vs H Q _ => ∃ (d0 : D) (b : Addr) (ds ds2 : List D) (v0 : V) (vs2 : List V) (F : List Addr),
  vs = v0 :: .ref b :: vs2 ∧ Rep K (wo H F) d0 v0 ∧ RepL K (wo H F) ds2 vs2 ∧ Own K (wo H F) H (n + 1) (.pin b ds) (.ref b) F ∧ F.Nodup ∧
  ∃ es, g (d0 :: .pin b ds :: ds2) = .nx (.pin b es) ∧ full (n + 1) (.lst es) = true ∧
    ∀ H' F', Same (wo H F) H' → Own K emp H' (n + 1) (.pin b es) (.ref b) F' → F'.Nodup → (∀ a ∈ F', wo H F a = none) → Q .non H'
def slotsI (m n : Nat) (d0 : D) (d1 : D) (ds2 : List D) : List Slot := .S 0 d0 :: .S (n + 1) d1 :: (ds2.map (Slot.S 0) ++ List.replicate (m - (ds2.length + 2)) .J)
theorem full_pin {K : PySem.W.Frag} {Hs H : Hp} {n : Nat} {b : Addr} {es : List D} {v : V} {F : List Addr} (c : full (n + 1) (.lst es) = true) (h : Own K Hs H (n + 1) (.pin b es) v F) : Own K emp H (n + 1) (.pin b es) v F := by
  obtain ⟨vs, F', e, ha, r, eF⟩ := h
  have := own_full c (⟨b, vs, F', e, ha, r, eF⟩ : Own K Hs H (n + 1) (.lst es) v F)
  obtain ⟨a, vs2, F2, e2, ha2, r2, eF2⟩ := this
  have : a = b := by rw [e] at e2; cases e2; rfl
  subst this
  exact ⟨vs2, F2, e2, ha2, r2, eF2⟩
section
variable {P : Program} {w : World} {K : PySem.W.Frag} {mg : Str → Option Value} {base : Heap}
theorem cls_startI {K : PySem.W.Frag} {Hs H : Hp} {F : List Addr} {n m : Nat} {d0 d1 : D} {ds2 : List D} {v0 v1 : V} {vs2 : List V} (h0 : Rep K Hs d0 v0) (h1 : Own K Hs H (n + 1) d1 v1 F) (h2 : RepL K Hs ds2 vs2) :
    Cls K Hs H ((v0 :: v1 :: vs2).map some ++ List.replicate m none) (.S 0 d0 :: .S (n + 1) d1 :: (ds2.map (Slot.S 0) ++ List.replicate m .J)) F := by
  have c := Cls.congr (Hs := Hs) (H := Hs) (Hs' := Hs) (H' := H) (Same.refl _) (fun a m => by cases m) (cls_start (m := m) h2)
  exact ⟨v0, _, [], F, rfl, ⟨h0, rfl⟩, ⟨v1, _, F, [], rfl, h1, c, by simp⟩, by simp⟩
theorem def_okI {x qual : Str} {st : Stmt} {f : Addr} {fd : FuncData} {N ps : List Str} {kk n : Nat} {g : List D → Out Unit D} {mkS : D → List Slot} (F : Fun K x qual st f fd) (S : FnScope N ps (defScope st)) (ar : ∀ ds s, g ds = .nx s → ds.length = ps.length)
    (h1 : ∀ s, (mkS s)[1]? = some (.S (n + 1) s))
    (hbody : ∀ (cdv : Value) (A : Around) (outer : List Env) (s : Shared) (H : Hp) (E : XK) (d0 d1 : D) (ds2 : List D), Room kk (A.deeper (envOfC qual (defScope st) s.heap.objs.size f cdv)) → (d0 :: d1 :: ds2).length = ps.length →
      Ex (cxOf CX0 P w K mg base N qual (defScope st) f cdv A outer s H E).nox W0 [] .R (defBody st) (slotsI N.length n d0 d1 ds2) (g (d0 :: d1 :: ds2)) mkS (fun _ : Unit => [])) : FnOk P w K mg base CX0 (kk + 1) f fd ps (spI K n g) := by
  have hlen : ∀ {vs : List V} {H : Hp} {Q : VK} {E : XK}, spI K n g vs H Q E → vs.length = ps.length := fun {vs H Q E} h => by
    obtain ⟨d0, b, ds, ds2, v0, vs2, F, e, r0, r2, o, nd, es, eg, fu, q⟩ := h
    rw [e, ← ar _ _ eg, List.length_cons, List.length_cons, List.length_cons, List.length_cons, r2.len]
  refine F.ok S (fun vs H Q E h => hlen h) fun cdv A outer s H vs Q E hr h => ?_
  have hl := hlen h
  obtain ⟨d0, b, ds, ds2, v0, vs2, F, e, r0, r2, o, nd, es, eg, fu, q⟩ := h
  refine ⟨_, wSs.pss _ (defBody st), ?_⟩
  have hN : (d0 :: D.pin b ds :: ds2).length = ps.length := ar _ _ eg
  refine hbody cdv A outer s H E d0 (.pin b ds) ds2 hr hN (wo H F) (L2.start N vs) H _ ?_ ?_
  · refine ⟨wo H F, F, Same.refl _, wo_same, ?_, nd, fun a m => wo_in m⟩
    unfold L2.start slotsI
    rw [e]
    have := cls_startI (m := N.length - (ds2.length + 2)) r0 o r2
    rw [List.length_cons, List.length_cons, r2.len]
    exact this
  · rw [eg]
    intro σ' H' ⟨Hs2, F2, y⟩
    obtain ⟨v', Fi, A2, B2, z1, z2, z3, _, _⟩ := Cls.at y.cls (h1 (.pin b es))
    have ev : v' = .ref b := by
      obtain ⟨vs, F', e, _⟩ := z2
      exact e
    subst ev
    have nd2 := y.nd
    rw [z3] at nd2
    refine q H' Fi (y.low.trans y.up) (full_pin fu z2) ?_ fun a m => ?_
    · exact (List.nodup_append.mp (List.nodup_append.mp nd2).1).2.1
    · have := y.fresh a (by rw [z3]; simp [m])
      cases ew : wo H F a with
      | none => rfl
      | some o => rw [y.low a o ew] at this; cases this
end
end Sw
namespace Sw
open PySem PySem.Spec PyProof.Rows L2
def fn3I (g : D → D → D → Out Unit D) : List D → Out Unit D
  | [a, b, c] => g a b c
  | _ => .err
open Classical in
noncomputable def callIO (n : Nat) (g : D → Out Unit D) : D → Rs D
  | .lst ds => if h : ∃ es, (∀ b, g (.pin b ds) = .nx (.pin b es)) ∧ full (n + 1) (.lst es) = true then .nx (.lst (Classical.choose h)) else .err
  | _ => .err
theorem callIO_eq {n : Nat} {g : D → Out Unit D} {ds es : List D} (h : ∀ b, g (.pin b ds) = .nx (.pin b es)) (c : full (n + 1) (.lst es) = true) : callIO n g (.lst ds) = .nx (.lst es) := by
  have hx : ∃ es, (∀ b, g (.pin b ds) = .nx (.pin b es)) ∧ full (n + 1) (.lst es) = true := ⟨es, h, c⟩
  have e1 := Classical.choose_spec hx
  have e2 := (e1.1 0).symm.trans (h 0)
  have e0 : callIO n g (.lst ds) = .nx (.lst (Classical.choose hx)) := dif_pos hx
  rw [e0]
  injection e2 with e3
  injection e3 with e4 e5
  rw [e5]
section
variable {X : Cx} {W : WX} {xv : List Slot} {k : Kd} {α β : Type} {env : List Slot} {mk : α → List Slot} {lk : β → List Slot} {rest : List Stmt} {pos : Pos}
theorem ex_callI {n j kk i : Nat} {x xr : Str} {ps : List Str} {p pr pc : Pos} {a0 a2 : Expr} {x0 d : D} {o2 : Rs D} {g : D → D → D → Out Unit D} {G : D → Out β α} (h : Does X.prog X.w X.K X.mg X.base CX0 x ps kk (spI X.K n (fn3I g))) (hr : Room j X.A)
    (h0 : EvS X W a0 env (.nx x0)) (h2 : Ev X W .R a2 (dat env) o2) (hi : env[i]? = some (.S (n + 1) d)) (hrest : ∀ d, Ex X W xv k rest (env.set i (.S (n + 1) d)) (G d) mk lk)
    (hN : X.N[i]? = some xr := by rfl) (hv : Vis X.env.scope xr := by first | exact Or.inl rfl | exact Or.inr (Or.inl rfl) | exact Or.inr (Or.inr rfl)) (hd : (xr == ("__debug__" : Str)) = false := by decide) (hcd : (xr == ("__classdict__" : Str)) = false := by decide)
    (hj : kk ≤ j := by decide) (hg : Gl X x := by rfl) (hdb : (x == ("__debug__" : Str)) = false := by decide) (hx : XOk env xv := by first | exact Or.inl rfl | exact Or.inr (by repeat (first | exact Wk.nil | refine Wk.keep ?_ | refine Wk.drop ?_)))
    (s1 : starEach (a0 :: [.Name xr pr, a2]) X.env = (false, eval a0 X.env) :: starEach [.Name xr pr, a2] X.env := by rfl) (s2 : starEach (.Name xr pr :: [a2]) X.env = (false, eval (.Name xr pr) X.env) :: starEach [a2] X.env := by rfl) (s3 : starEach (a2 :: []) X.env = (false, eval a2 X.env) :: starEach [] X.env := by rfl)
    (hpl : (backTo pc (starEach [.Name xr pr, a2] X.env)).any (·.1) = false := by rfl) (hs : swapsWith (.Call (.Name x p) [a0, .Name xr pr, a2] [] pc) none pos.line X.env = pure false := by rfl) :
    Ex X W xv k (.Expr (.Call (.Name x p) [a0, .Name xr pr, a2] [] pc) pos :: rest) env (((o2.bind at?).bind fun x2 => callIO n (fun r => g x0 r x2) d).to G) mk lk := fun H0 σ H D hF q => by
  obtain ⟨f, fd, hm, hk, hbd, Fk⟩ := h
  refine wSs.cons (ps_expr (pe_call Fk (hr.mono hj) hg hm hk hbd .nil pass0 (pa_cons (wE.pe X a0) (pa_cons (pe_var hN hv hd hcd) (pa_cons (wE.pe X a2) pa_nil s3) s2) s1) hdb s1 hpl) hs) ?_
  obtain ⟨Hs, F, y⟩ := hF
  obtain ⟨v1, Fi0, A0, B0, hσ, _⟩ := Cls.at y.cls hi
  show wE X a0 σ H _
  refine h0 H0 Hs σ H F _ y ?_
  intro v0 H1 sm1 r0
  refine ⟨v1, hσ, ?_⟩
  show wE X a2 σ H1 _
  refine h2 σ H1 _ (y.rd.mono sm1) ?_
  cases o2 with
  | exc m => exact fun C hC H' sm => (q : ∀ C, X.mg m = some (.ref C) → ∀ σ' H', Same H0 H' → (xv = [] ∨ Fr X.K H0 H' σ' xv) → W (.ref C) none σ' H') C hC σ H' ((y.low.trans y.up).trans (sm1.trans sm)) ((Fr.grow ⟨Hs, F, y⟩ (sm1.trans sm)).toXv hx)
  | err => exact (q : False).elim
  | nx x2 =>
    intro v2 H2 sm2 r2
    have r2 : Rep X.K H2 x2 v2 := r2
    rw [Rs.bind_nx] at q
    by_cases ca : x2.atom = true
    · rw [show at? x2 = .nx x2 from if_pos ca, Rs.bind_nx] at q
      cases d with
      | lst ds =>
        by_cases hex : ∃ es, (∀ b, g x0 (.pin b ds) x2 = .nx (.pin b es)) ∧ full (n + 1) (.lst es) = true
        · obtain ⟨es, he1, he2⟩ := hex
          rw [callIO_eq he1 he2, Rs.to_nx] at q
          have y2 := y.grow (sm1.trans sm2)
          obtain ⟨v1', Fi, A, B, z1, z2, z3, z4, _⟩ := Cls.at y2.cls hi
          rw [hσ] at z1
          cases z1
          have nd := y2.nd
          rw [z3] at nd
          have hfr : ∀ a ∈ Fi, Hs a = none := fun a m => y2.fresh a (by rw [z3]; simp [m])
          have sw : Same Hs (wo H2 Fi) := same_wo y2.up hfr
          obtain ⟨a, vs, F', ev, ha, r, eF⟩ := z2
          subst ev
          have ow : Own X.K (wo H2 Fi) H2 (n + 1) (.pin a ds) (.ref a) Fi := Own.congr sw (fun _ _ => rfl) (⟨vs, F', rfl, ha, r, eF⟩ : Own X.K Hs H2 (n + 1) (.pin a ds) (.ref a) Fi)
          refine ⟨x0, a, ds, [x2], v0, [v2], Fi, rfl, Rep.mono sw _ _ r0, ⟨v2, [], rfl, rep_atom ca r2, rfl⟩, ow, (List.nodup_append.mp (List.nodup_append.mp nd).1).2.1, es, he1 a, he2, fun H' F2 sm o nd' fr => ?_⟩
          have hAB : ∀ t ∈ A ++ B, wo H2 Fi t = H2 t := fun t m => wo_out (by
            intro mi
            rw [List.append_assoc] at nd
            obtain ⟨_, n2, n3⟩ := List.nodup_append.mp nd
            obtain ⟨_, _, n4⟩ := List.nodup_append.mp n2
            rcases List.mem_append.mp m with m | m
            · exact n3 t m t (List.mem_append_left _ mi) rfl
            · exact n4 t mi t m rfl)
          have hth : ∀ t ∈ A ++ B, H2 t ≠ none := fun t m => Cls.there y2.cls t (by rw [z3]; simp at m ⊢; rcases m with m | m <;> simp [m])
          have hag : ∀ t ∈ A ++ B, H' t = H2 t := fun t m => by
            cases e : H2 t with
            | none => exact absurd e (hth t m)
            | some o => exact sm t o (by rw [hAB t m]; exact e)
          have own2 : Own X.K Hs H' (n + 1) (.lst es) (.ref a) F2 := by
            obtain ⟨us, G2, _, h1, h2, h3⟩ := o
            exact Own.congr (Hs := emp) (fun a o e => by cases e) (fun _ _ => rfl) (⟨a, us, G2, rfl, h1, h2, h3⟩ : Own X.K emp H' (n + 1) (.lst es) (.ref a) F2)
          have c2 := z4 Hs H' (n + 1) (.lst es) (.ref a) F2 (Same.refl _) hag own2
          rw [set_id hσ] at c2
          refine hrest (.lst es) H0 σ H' D ⟨Hs, _, y2.low, sw.trans sm, c2, ?_, fun t m => ?_⟩ q
          · refine nodup_put nd nd' fun t m mi => ?_
            have := fr t m
            rw [hAB t mi] at this
            exact hth t mi this
          · by_cases mf : t ∈ F2
            · cases e : Hs t with
              | none => rfl
              | some o =>
                have z := fr t mf
                rw [sw t o e] at z
                cases z
            · exact y2.fresh t (by rw [z3]; simp at m ⊢; rcases m with m | m | m <;> simp_all)
        · have : callIO n (fun r => g x0 r x2) (.lst ds) = .err := dif_neg hex
          rw [this] at q
          exact (q : False).elim
      | _ => exact (q : False).elim
    · rw [show at? x2 = .err from if_neg ca] at q
      exact (q : False).elim
end
end Sw
namespace Sw
open PySem PySem.Spec PyProof.Rows L2
/-- a list, without its address -/
def unpin : D → D
  | .pin _ xs => .lst xs
  | d => d
@[simp] theorem unpin_pin (a : Addr) (xs : List D) : unpin (.pin a xs) = .lst xs := rfl
theorem rep_unpin {K : PySem.W.Frag} {H : Hp} {d : D} {v : V} (h : Rep K H d v) : Rep K H (unpin d) v := by
  cases d with
  | pin a xs =>
    unfold Rep at h
    obtain ⟨e, vs, ha, r⟩ := h
    show Rep K H (.lst xs) v
    unfold Rep
    exact ⟨a, vs, e, ha, r⟩
  | _ => exact h
/-- a name whose slot may be pinned -/
theorem ev_varU {X : Cx} {W : WX} {ρ : List (Option D)} {d : D} {x : Str} {pos : Pos} (i : Nat) (hρ : ρ[i]? = some (some d) := by rfl) (hN : X.N[i]? = some x := by rfl)
    (hv : Vis X.env.scope x := by first | exact Or.inl rfl | exact Or.inr (Or.inl rfl) | exact Or.inr (Or.inr rfl)) (hd : (x == ("__debug__" : Str)) = false := by decide)
    (hcd : (x == ("__classdict__" : Str)) = false := by decide) : Ev X W .R (.Name x pos) ρ (.nx (unpin d) : Rs D) := fun σ H Q hr q => by
  obtain ⟨v, h1, h2⟩ := hr.get i d hρ
  exact wE.of (pe_var hN hv hd hcd) ⟨v, h1, (q : ∀ v H', _) v H (Same.refl _) (rep_unpin h2)⟩
end Sw
namespace Sw
def fn2I (g : D → D → Out Unit D) : List D → Out Unit D
  | [a, b] => g a b
  | _ => .err
theorem ar3I {g : D → D → D → Out Unit D} : ∀ ds s, fn3I g ds = .nx s → ds.length = 3 := fun ds s h => by
  unfold fn3I at h
  split at h
  · rfl
  · cases h
theorem ar2I {g : D → D → Out Unit D} : ∀ ds s, fn2I g ds = .nx s → ds.length = 2 := fun ds s h => by
  unfold fn2I at h
  split at h
  · rfl
  · cases h
end Sw

/- part SwInsP -/
namespace Sw
open PySem PySem.Spec PyProof.Rows L2
/-! x.insert(e, x.pop(..)) -/
def insP (d d2 : Sw.D) (ob oa : Rs Sw.D) : Rs Sw.D := match plGet none d with
  | some _ => ob.bind fun y => oa.bind fun x => edD none (insL y x) d2
  | none => .err
section
variable {X : Cx} {W : WX} {xv : List Slot} {k : Kd} {α β : Type} {env env' : List Slot} {mk : α → List Slot} {lk : β → List Slot} {rest : List Stmt} {pos : Pos}
theorem ex_insP {n : Nat} {d d2 : Sw.D} {x : Str} {pr ap cp : Pos} {eb ea : Expr} {ob oa : Rs Sw.D} {g : Sw.D → Out β α} (i : Nat) (hb : Ev X W .R eb (dat env) ob) (ha : EvP X W n ea env env' oa)
    (hr : ∀ d', Ex X W xv k rest (env'.set i (.S (n + 1) d')) (g d') mk lk)
    (hi : env[i]? = some (.S (n + 1) d) := by rfl) (hi' : env'[i]? = some (.S (n + 1) d2) := by rfl) (hN : X.N[i]? = some x := by rfl)
    (hv : Vis X.env.scope x := by first | exact Or.inl rfl | exact Or.inr (Or.inl rfl) | exact Or.inr (Or.inr rfl)) (hd : (x == ("__debug__" : Str)) = false := by decide) (hcd : (x == ("__classdict__" : Str)) = false := by decide) (hx : XOk env xv := by first | exact Or.inl rfl | exact Or.inr (by repeat (first | exact Wk.nil | refine Wk.keep ?_ | refine Wk.drop ?_))) (hs1 : starEach (eb :: [ea]) X.env = (false, eval eb X.env) :: starEach [ea] X.env := by rfl)
    (hs2 : starEach (ea :: []) X.env = (false, eval ea X.env) :: starEach [] X.env := by rfl)
    (hbase : attributeBase (.Name x pr) "insert" X.env (eval (.Name x pr) X.env) = eval (.Name x pr) X.env := by rfl)
    (hfew : ((backTo cp (starEach [eb, ea] X.env)).all (fun x => !x.1) && (backToKw cp (keywordEach [] X.env)).all (fun x => x.1.isSome)
      && decide (([eb, ea] : List Expr).length + ([] : List Keyword).length + (if ([] : List Keyword).isEmpty then 0 else 1) < 30)) = true := by rfl)
    (hline : (ap.endLine == cp.line) = true := by rfl) (hplain : (backTo cp (starEach [ea] X.env)).any (·.1) = false := by rfl)
    (hs : swapsWith (.Call (.Attribute (.Name x pr) "insert" ap) [eb, ea] [] cp) none pos.line X.env = pure false := by rfl) :
    Ex X W xv k (.Expr (.Call (.Attribute (.Name x pr) "insert" ap) [eb, ea] [] cp) pos :: rest) env ((insP d d2 ob oa).to g) mk lk := fun H0 σ H D hF q => by
  refine wSs.cons (ps_expr (pe_bm PySem.F.plainAttrs_list PySem.F.slot_list_insert PySem.F.type_list_insert mt_insert (pe_var hN hv hd hcd) (pa_cons (wE.pe X eb) (pa_cons (wE.pe X ea) pa_nil hs2) hs1) hbase hfew hline hs1 hplain) hs) ?_
  obtain ⟨v, hσ, _⟩ := hF.rd.get i d (by rw [List.getElem?_map, hi]; rfl)
  refine ⟨v, hσ, ?_⟩
  have hF1 := hF
  have q1 := q
  unfold insP at q1
  cases ep : plGet none d with
  | none => simp only [ep] at q1; exact q1.elim
  | some ds =>
    simp only [ep] at q1
    obtain ⟨b, vs, ev, hb0, _⟩ := place_of (j := none) hF1.rd hi hσ ep
    subst ev
    refine ⟨ty_list hb0, ?_⟩
    show wE X eb σ H _
    refine hb σ H _ hF1.rd ?_
    cases ob with
    | nx y =>
      intro wy Hy sy ry
      have ry : Rep X.K Hy y wy := ry
      have hFy := hF1.grow sy
      show wE X ea σ Hy _
      refine ha H0 σ Hy _ hFy ?_
      cases oa with
      | nx x =>
        intro w H2 f2
        have q2 : PostS X W xv k H0 D mk lk ((edD none (insL y x) d2).to g) := q1
        obtain ⟨b', us, ds', es, e1, hb', hl, hd', he, q3, fr⟩ := edit_end insL_no f2 hi' (show n + 1 = lev none n from rfl) (show PathV H2 σ i none _ from hσ) q2
        cases e1
        cases y with
        | int t =>
          unfold Rep at ry
          have he : (if ds'.length < sizeLine ∧ 0 ≤ t ∧ t < 2 ^ 63 then (Rs.nx (ds'.take t.toNat ++ [x] ++ ds'.drop t.toNat)) else .err) = .nx es := he
          split at he
          · rename_i c
            cases he
            refine ⟨b, us, t, w, rfl, by rw [ry], hb', by rw [hl]; exact c.1, c.2.1, c.2.2, ?_⟩
            exact hr _ H0 _ _ D (fr _ (edit_insert t.toNat)) q3
          · cases he
        | _ => cases he
      | exc m => exact fun C hC H' sm => q1 C hC σ H' (hFy.same.trans sm) ((hFy.grow sm).toXv hx)
      | err => exact q1
    | exc m => exact fun C hC H' sm => q1 C hC σ H' (hF1.same.trans sm) ((hF1.grow sm).toXv hx)
    | err => exact q1
end
end Sw

/- part SwIO2 -/
/-! Two arguments, the second changed in place; a list given away; extend by what is new. -/
namespace Sw
open PySem PySem.Spec PyProof.Rows L2
section
variable {X : Cx} {W : WX} {xv : List Slot} {k : Kd} {α β : Type} {env : List Slot} {mk : α → List Slot} {lk : β → List Slot} {rest : List Stmt} {pos : Pos}
theorem ex_callI2 {n j kk i : Nat} {x xr : Str} {ps : List Str} {p pr pc : Pos} {a0 : Expr} {x0 d : D} {g : D → D → Out Unit D} {G : D → Out β α} (h : Does X.prog X.w X.K X.mg X.base CX0 x ps kk (spI X.K n (fn2I g))) (hr : Room j X.A)
    (h0 : EvS X W a0 env (.nx x0)) (hi : env[i]? = some (.S (n + 1) d)) (hrest : ∀ d, Ex X W xv k rest (env.set i (.S (n + 1) d)) (G d) mk lk)
    (hN : X.N[i]? = some xr := by rfl) (hv : Vis X.env.scope xr := by first | exact Or.inl rfl | exact Or.inr (Or.inl rfl) | exact Or.inr (Or.inr rfl)) (hd : (xr == ("__debug__" : Str)) = false := by decide) (hcd : (xr == ("__classdict__" : Str)) = false := by decide)
    (hj : kk ≤ j := by decide) (hg : Gl X x := by rfl) (hdb : (x == ("__debug__" : Str)) = false := by decide) (hx : XOk env xv := by first | exact Or.inl rfl | exact Or.inr (by repeat (first | exact Wk.nil | refine Wk.keep ?_ | refine Wk.drop ?_)))
    (s1 : starEach (a0 :: [.Name xr pr]) X.env = (false, eval a0 X.env) :: starEach [.Name xr pr] X.env := by rfl) (s2 : starEach (.Name xr pr :: []) X.env = (false, eval (.Name xr pr) X.env) :: starEach [] X.env := by rfl)
    (hpl : (backTo pc (starEach [.Name xr pr] X.env)).any (·.1) = false := by rfl) (hs : swapsWith (.Call (.Name x p) [a0, .Name xr pr] [] pc) none pos.line X.env = pure false := by rfl) :
    Ex X W xv k (.Expr (.Call (.Name x p) [a0, .Name xr pr] [] pc) pos :: rest) env ((callIO n (fun r => g x0 r) d).to G) mk lk := fun H0 σ H D hF q => by
  obtain ⟨f, fd, hm, hk, hbd, Fk⟩ := h
  refine wSs.cons (ps_expr (pe_call Fk (hr.mono hj) hg hm hk hbd .nil pass0 (pa_cons (wE.pe X a0) (pa_cons (pe_var hN hv hd hcd) pa_nil s2) s1) hdb s1 hpl) hs) ?_
  obtain ⟨Hs, F, y⟩ := hF
  obtain ⟨v1, Fi0, A0, B0, hσ, _⟩ := Cls.at y.cls hi
  show wE X a0 σ H _
  refine h0 H0 Hs σ H F _ y ?_
  intro v0 H1 sm1 r0
  refine ⟨v1, hσ, ?_⟩
  cases d with
  | lst ds =>
    by_cases hex : ∃ es, (∀ b, g x0 (.pin b ds) = .nx (.pin b es)) ∧ full (n + 1) (.lst es) = true
    · obtain ⟨es, he1, he2⟩ := hex
      rw [callIO_eq he1 he2, Rs.to_nx] at q
      have y2 := y.grow sm1
      obtain ⟨v1', Fi, A, B, z1, z2, z3, z4, _⟩ := Cls.at y2.cls hi
      rw [hσ] at z1
      cases z1
      have nd := y2.nd
      rw [z3] at nd
      have hfr : ∀ a ∈ Fi, Hs a = none := fun a m => y2.fresh a (by rw [z3]; simp [m])
      have sw : Same Hs (wo H1 Fi) := same_wo y2.up hfr
      obtain ⟨a, vs, F', ev, ha, r, eF⟩ := z2
      subst ev
      have ow : Own X.K (wo H1 Fi) H1 (n + 1) (.pin a ds) (.ref a) Fi := Own.congr sw (fun _ _ => rfl) (⟨vs, F', rfl, ha, r, eF⟩ : Own X.K Hs H1 (n + 1) (.pin a ds) (.ref a) Fi)
      refine ⟨x0, a, ds, [], v0, [], Fi, rfl, Rep.mono sw _ _ r0, rfl, ow, (List.nodup_append.mp (List.nodup_append.mp nd).1).2.1, es, he1 a, he2, fun H' F2 sm o nd' fr => ?_⟩
      have hAB : ∀ t ∈ A ++ B, wo H1 Fi t = H1 t := fun t m => wo_out (by
        intro mi
        rw [List.append_assoc] at nd
        obtain ⟨_, n2, n3⟩ := List.nodup_append.mp nd
        obtain ⟨_, _, n4⟩ := List.nodup_append.mp n2
        rcases List.mem_append.mp m with m | m
        · exact n3 t m t (List.mem_append_left _ mi) rfl
        · exact n4 t mi t m rfl)
      have hth : ∀ t ∈ A ++ B, H1 t ≠ none := fun t m => Cls.there y2.cls t (by rw [z3]; simp at m ⊢; rcases m with m | m <;> simp [m])
      have hag : ∀ t ∈ A ++ B, H' t = H1 t := fun t m => by
        cases e : H1 t with
        | none => exact absurd e (hth t m)
        | some o => exact sm t o (by rw [hAB t m]; exact e)
      have own2 : Own X.K Hs H' (n + 1) (.lst es) (.ref a) F2 := by
        obtain ⟨us, G2, _, h1, h2, h3⟩ := o
        exact Own.congr (Hs := emp) (fun a o e => by cases e) (fun _ _ => rfl) (⟨a, us, G2, rfl, h1, h2, h3⟩ : Own X.K emp H' (n + 1) (.lst es) (.ref a) F2)
      have c2 := z4 Hs H' (n + 1) (.lst es) (.ref a) F2 (Same.refl _) hag own2
      rw [set_id hσ] at c2
      refine hrest (.lst es) H0 σ H' D ⟨Hs, _, y2.low, sw.trans sm, c2, ?_, fun t m => ?_⟩ q
      · refine nodup_put nd nd' fun t m mi => ?_
        have := fr t m
        rw [hAB t mi] at this
        exact hth t mi this
      · by_cases mf : t ∈ F2
        · cases e : Hs t with
          | none => rfl
          | some o =>
            have z := fr t mf
            rw [sw t o e] at z
            cases z
        · exact y2.fresh t (by rw [z3]; simp at m ⊢; rcases m with m | m | m <;> simp_all)
    · have : callIO n (fun r => g x0 r) (.lst ds) = .err := dif_neg hex
      rw [this] at q
      exact (q : False).elim
  | _ => exact (q : False).elim
end
end Sw
namespace Sw
open PySem PySem.Spec PyProof.Rows L2
/-! ### a list given away: f(a, e), e new; f may change it and answer it -/
def spJ (K : PySem.W.Frag) (n : Nat) (g : List D → Out Unit Unit) : Sp := fun vs H Q _ => ∃ (d0 : D) (b : Addr) (ds : List D) (v0 : V) (F : List Addr),
  vs = [v0, .ref b] ∧ Rep K (wo H F) d0 v0 ∧ Own K (wo H F) H (n + 1) (.pin b ds) (.ref b) F ∧ F.Nodup ∧
  ∃ d, g [d0, .pin b ds] = .rt d ∧ ∀ v H', Same (wo H F) H' → Rep K H' d v → Q v H'
noncomputable section
open Classical in
def callJO (g : D → Out Unit Unit) : D → Rs D
  | .lst ds => if h : ∃ d, ∀ b, g (.pin b ds) = .rt d then .nx (Classical.choose h) else .err
  | _ => .err
end
theorem callJO_eq {g : D → Out Unit Unit} {ds : List D} {d : D} (h : ∀ b, g (.pin b ds) = .rt d) : callJO g (.lst ds) = .nx d := by
  have hx : ∃ d, ∀ b, g (.pin b ds) = .rt d := ⟨d, h⟩
  have e1 := Classical.choose_spec hx
  have e2 := (e1 0).symm.trans (h 0)
  have e0 : callJO g (.lst ds) = .nx (Classical.choose hx) := dif_pos hx
  rw [e0]
  injection e2 with e3
  rw [e3]
section
variable {P : Program} {w : World} {K : PySem.W.Frag} {mg : Str → Option Value} {base : Heap}
theorem def_okJ {x qual : Str} {st : Stmt} {f : Addr} {fd : FuncData} {N ps : List Str} {kk n : Nat} {g : List D → Out Unit Unit} {el : List Slot} (F : Fun K x qual st f fd) (S : FnScope N ps (defScope st)) (ar : ps.length = 2)
    (hbody : ∀ (cdv : Value) (A : Around) (outer : List Env) (s : Shared) (H : Hp) (E : XK) (d0 d1 : D), Room kk (A.deeper (envOfC qual (defScope st) s.heap.objs.size f cdv)) →
      Ex (cxOf CX0 P w K mg base N qual (defScope st) f cdv A outer s H E).nox W0 [] .R (defBody st) (slotsI N.length n d0 d1 []) (g [d0, d1]) (fun _ : Unit => el) (fun _ : Unit => el)) : FnOk P w K mg base CX0 (kk + 1) f fd ps (spJ K n g) := by
  have hlen : ∀ {vs : List V} {H : Hp} {Q : VK} {E : XK}, spJ K n g vs H Q E → vs.length = ps.length := fun {vs H Q E} h => by
    obtain ⟨d0, b, ds, v0, F, e, _⟩ := h
    rw [e, ar]
    rfl
  refine F.ok S (fun vs H Q E h => hlen h) fun cdv A outer s H vs Q E hr h => ?_
  obtain ⟨d0, b, ds, v0, F, e, r0, o, nd, d, eg, q⟩ := h
  refine ⟨_, wSs.pss _ (defBody st), ?_⟩
  refine hbody cdv A outer s H E d0 (.pin b ds) hr (wo H F) (L2.start N vs) H _ ?_ ?_
  · refine ⟨wo H F, F, Same.refl _, wo_same, ?_, nd, fun a m => wo_in m⟩
    unfold L2.start slotsI
    rw [e]
    exact cls_startI (m := N.length - 2) r0 o (by unfold RepL; rfl)
  · rw [eg]
    exact fun v H' sm r => q v H' sm r
end
section
variable {X : Cx} {W : WX} {ρ : List (Option D)}
theorem ev_callJ {n j kk : Nat} {x : Str} {ps : List Str} {p pc : Pos} {a0 e1 : Expr} {o0 o1 : Rs D} {g : D → D → Out Unit Unit} (h : Does X.prog X.w X.K X.mg X.base CX0 x ps kk (spJ X.K n (fn2 g))) (hr : Room j X.A)
    (h0 : Ev X W .R a0 ρ o0) (h1 : Ev X W (.O (n + 1)) e1 ρ o1) (hj : kk ≤ j := by decide) (hg : Gl X x := by rfl) (hdb : (x == ("__debug__" : Str)) = false := by decide)
    (s1 : starEach (a0 :: [e1]) X.env = (false, eval a0 X.env) :: starEach [e1] X.env := by rfl) (s2 : starEach (e1 :: []) X.env = (false, eval e1 X.env) :: starEach [] X.env := by rfl)
    (hpl : (backTo pc (starEach [e1] X.env)).any (·.1) = false := by rfl) :
    Ev X W .R (.Call (.Name x p) [a0, e1] [] pc) ρ (o0.bind fun x0 => o1.bind fun r => callJO (g x0) r) := fun σ H Q hR q => by
  obtain ⟨f, fd, hm, hk, hbd, Fk⟩ := h
  refine wE.of (pe_call Fk (hr.mono hj) hg hm hk hbd .nil pass0 (pa_cons (wE.pe X a0) (pa_cons (wE.pe X e1) pa_nil s2) s1) hdb s1 hpl) ?_
  show wE X a0 σ H _
  refine h0 σ H _ hR ?_
  cases o0 with
  | exc m => exact q
  | err => exact q
  | nx x0 =>
    intro v0 H1 sm1 r0
    have r0 : Rep X.K H1 x0 v0 := r0
    show wE X e1 σ H1 _
    refine h1 σ H1 _ (hR.mono sm1) ?_
    have q := q.at sm1
    rw [Rs.bind_nx] at q
    cases o1 with
    | exc m => exact q
    | err => exact q
    | nx r =>
      intro v1 H2 sm2 r1
      obtain ⟨F, ow, nd, fr⟩ := r1
      rw [Rs.bind_nx] at q
      cases r with
      | lst ds =>
        by_cases hex : ∃ d, ∀ b, g x0 (.pin b ds) = .rt d
        · obtain ⟨d, hd⟩ := hex
          rw [callJO_eq hd] at q
          have sw : Same H1 (wo H2 F) := same_wo sm2 fr
          obtain ⟨a, vs, F', ev, ha, r, eF⟩ := ow
          subst ev
          have ow : Own X.K (wo H2 F) H2 (n + 1) (.pin a ds) (.ref a) F := Own.congr (Hs := emp) (fun a o e => by cases e) (fun _ _ => rfl) (⟨vs, F', rfl, ha, r, eF⟩ : Own X.K emp H2 (n + 1) (.pin a ds) (.ref a) F)
          exact ⟨x0, a, ds, v0, F, rfl, Rep.mono sw _ _ r0, ow, nd, d, hd a, fun v H' sm r => (q : ∀ v H', _) v H' (sw.trans sm) r⟩
        · have : callJO (g x0) (.lst ds) = .err := dif_neg hex
          rw [this] at q
          exact (q : False).elim
      | _ => exact (q : False).elim
end
/-! ### x.extend(e), e new -/
section
variable {K : PySem.W.Frag} {H0 H : Hp} {σ : Sg} {env : List Slot}
theorem Fr.ext {i n N : Nat} {j : Option Nat} {d : D} {ds xs : List D} {v w : V} (h : Fr K H0 H (some w :: σ) (.S (n + 1) (.lst xs) :: env)) (hi : env[i]? = some (.S N d)) (hN : N = lev j n) (pv : PathV H σ i j v) (hd : plGet j d = some ds) :
    ∃ b vs p ws, v = .ref b ∧ w = .ref p ∧ H b = some (.lst vs) ∧ H p = some (.lst ws) ∧ vs.length = ds.length ∧ ws.length = xs.length ∧ Fr K H0 (upd H b (.lst (vs ++ ws))) σ (env.set i (.S N (plPut j d (ds ++ xs)))) := by
  obtain ⟨Hs, Ft, y⟩ := h
  obtain ⟨w', σ', Fd, F, e, p, cl, eF⟩ := y.cls
  cases e
  have hnd := y.nd
  have hfr := y.fresh
  rw [eF] at hnd hfr
  obtain ⟨b, vs, A, F', B, e1, hb, r, e2, put⟩ := lens cl hi hN pv hd
  obtain ⟨pp, ws, Fx, ew, hp, rw', eFd⟩ := p
  subst eFd
  refine ⟨b, vs, pp, ws, e1, ew, hb, hp, r.len, rw'.len, ?_⟩
  subst e2
  obtain ⟨d1, d2, d3⟩ := List.nodup_append.mp hnd
  obtain ⟨d1a, d1b⟩ := List.nodup_cons.mp d1
  rw [List.append_assoc] at d2
  obtain ⟨d4, d5, d6⟩ := List.nodup_append.mp d2
  have d5 : (b :: (F' ++ B)).Nodup := d5
  obtain ⟨d7, d8⟩ := List.nodup_cons.mp d5
  obtain ⟨d9, d10, d11⟩ := List.nodup_append.mp d8
  have hbF : b ∉ F' := fun m => d7 (List.mem_append_left _ m)
  have hbB : b ∉ B := fun m => d7 (List.mem_append_right _ m)
  have hbA : b ∉ A := fun m => d6 b m b (by simp) rfl
  have hbD : b ∉ Fx := fun m => d3 b (by simp [m]) b (by simp) rfl
  have oG : AllF (Own K Hs (upd H b (.lst (vs ++ ws))) n) (ds ++ xs) (vs ++ ws) (F' ++ Fx) := AllF.append (AllF.impIn (fun d v T m q => Own.congr (Same.refl _) (fun t ht => upd_ne (fun z => hbF (by rw [← z]; exact m t ht))) q) r)
    (AllF.impIn (fun d v T m q => Own.congr (Same.refl _) (fun t ht => upd_ne (fun z => hbD (by rw [← z]; exact m t ht))) q) rw')
  have ndG : (F' ++ Fx).Nodup := List.nodup_append.mpr ⟨d9, d1b, fun a ha c hc e => d3 c (by simp [hc]) a (by simp [ha]) e.symm⟩
  refine ⟨Hs, A ++ (b :: (F' ++ Fx)) ++ B, y.low, fun a o q => ?_, put (upd H b (.lst (vs ++ ws))) _ _ _ (fun t ht => upd_ne (fun z => ?_)) upd_same oG, ?_, fun a m => ?_⟩
  · rw [upd_ne (fun z => ?_)]
    · exact y.up a o q
    · subst z
      rw [hfr a (by simp)] at q
      cases q
  · subst z
    rcases List.mem_append.mp ht with m | m
    · exact hbA m
    · exact hbB m
  · rw [List.append_assoc]
    refine List.nodup_append.mpr ⟨d4, List.nodup_cons.mpr ⟨fun m => ?_, List.nodup_append.mpr ⟨ndG, d10, fun a ha c hc e => ?_⟩⟩, fun a ha c hc e => ?_⟩
    · have m : b ∈ (F' ++ Fx) ++ B := m
      rcases List.mem_append.mp m with m | m
      · rcases List.mem_append.mp m with m | m
        · exact hbF m
        · exact hbD m
      · exact hbB m
    · subst e
      rcases List.mem_append.mp ha with m | m
      · exact d11 a m a hc rfl
      · exact d3 a (by simp [m]) a (by simp [hc]) rfl
    · subst e
      have hc : a ∈ b :: ((F' ++ Fx) ++ B) := hc
      rcases List.mem_cons.mp hc with m | m
      · exact hbA (m ▸ ha)
      · rcases List.mem_append.mp m with m | m
        · rcases List.mem_append.mp m with m | m
          · exact d6 a ha a (by simp [m]) rfl
          · exact d3 a (by simp [m]) a (by simp [ha]) rfl
        · exact d6 a ha a (by simp [m]) rfl
  · simp at m
    rcases m with m | m | m | m | m <;> exact hfr a (by simp [m])
end
def extOD (j : Option Nat) (d : D) (oa : Rs D) : Rs D := match plGet j d with
  | some ds => oa.bind fun x => match x with
    | .lst es => if ds.length + es.length ≤ sizeLine then .nx (plPut j d (ds ++ es)) else .err
    | _ => .err
  | none => .err
section
variable {X : Cx} {W : WX} {xv : List Slot} {k : Kd} {α β : Type} {env : List Slot} {mk : α → List Slot} {lk : β → List Slot} {rest : List Stmt} {pos : Pos}
theorem ex_extO {n N : Nat} {d : D} {ap cp : Pos} {er ea : Expr} {oj : Rs (Option Nat)} {oa : Rs D} {g : D → Out β α} (i : Nat) (hrc : Recv X W er env i oj) (ha : Ev X W (.O (n + 1)) ea (dat env) oa) (hr : ∀ d', Ex X W xv k rest (env.set i (.S N d')) (g d') mk lk)
    (hi : env[i]? = some (.S N d)) (hN : ∀ j, oj = .nx j → N = lev j n) (hx : XOk env xv := by first | exact Or.inl rfl | exact Or.inr (by repeat (first | exact Wk.nil | refine Wk.keep ?_ | refine Wk.drop ?_))) (hs1 : starEach (ea :: []) X.env = (false, eval ea X.env) :: starEach [] X.env := by rfl)
    (hbase : attributeBase er "extend" X.env (eval er X.env) = eval er X.env := by rfl)
    (hfew : ((backTo cp (starEach [ea] X.env)).all (fun x => !x.1) && (backToKw cp (keywordEach [] X.env)).all (fun x => x.1.isSome)
      && decide (([ea] : List Expr).length + ([] : List Keyword).length + (if ([] : List Keyword).isEmpty then 0 else 1) < 30)) = true := by rfl)
    (hline : (ap.endLine == cp.line) = true := by rfl) (hplain : (backTo cp (starEach [] X.env)).any (·.1) = false := by rfl)
    (hs : swapsWith (.Call (.Attribute er "extend" ap) [ea] [] cp) none pos.line X.env = pure false := by rfl) :
    Ex X W xv k (.Expr (.Call (.Attribute er "extend" ap) [ea] [] cp) pos :: rest) env (oj.to fun j => (extOD j d oa).to g) mk lk := fun H0 σ H D hF q => by
  refine wSs.cons (ps_expr (pe_bm PySem.F.plainAttrs_list PySem.F.slot_list_extend PySem.F.type_list_extend mt_extend (wE.pe X er) (pa_cons (wE.pe X ea) pa_nil hs1) hbase hfew hline hs1 hplain) hs) ?_
  show wE X er σ H _
  refine hrc.first hF hx q fun j v H1 ejj s1 pv q1 => ?_
  have hF1 := hF.grow s1
  unfold extOD at q1
  cases ep : plGet j d with
  | none => simp only [ep] at q1; exact q1.elim
  | some ds =>
    simp only [ep] at q1
    obtain ⟨b, vs, ev, hb, _⟩ := place_of hF1.rd hi pv ep
    subst ev
    refine ⟨ty_list hb, ?_⟩
    show wE X ea σ H1 _
    refine ha σ H1 _ hF1.rd ?_
    cases oa with
    | nx x =>
      intro w H2 s2 r2
      cases x with
      | lst es =>
        by_cases c : ds.length + es.length ≤ sizeLine
        · have q2 : PostS X W xv k H0 D mk lk (g (plPut j d (ds ++ es))) := by
            simp only [Rs.bind_nx, if_pos c, Rs.to_nx] at q1
            exact q1
          have f2 : Fr X.K H0 H2 (some w :: σ) (.S (n + 1) (.lst es) :: env) := hF1.push s2 r2
          obtain ⟨b', us, p, ws, e1, ew, hb', hp, hl, hl2, ed⟩ := f2.ext hi (hN j ejj) (pv.mono s2) ep
          cases e1
          subst ew
          refine ⟨b, p, us, ws, rfl, rfl, hb', hp, by rw [hl, hl2]; exact c, ?_⟩
          exact hr _ H0 _ _ D ed q2
        · simp only [Rs.bind_nx, if_neg c, Rs.to_err] at q1
          exact q1.elim
      | _ => exact q1.elim
    | exc m => exact fun C hC H' sm => q1 C hC σ H' (hF1.same.trans sm) ((hF1.grow sm).toXv hx)
    | err => exact q1
end
end Sw

/- part P_all -/
namespace Sw
open PySem L2
def f_is_shape (a_lengths : D) : Out Unit Unit := (((((Rs.nx a_lengths).bind fun x1 => lenD [x1]).bind fun x2 => Rs.nx [x2]).to fun a23 => (rngD1 a23).to fun ds24 => forL (fun (d3 : D) (s4 : Unit) => ((((((Rs.nx a_lengths).bind fun x16 => (Rs.nx d3).bind fun x17 => ixD x16 x17).bind fun x18 => (Rs.nx (.int 1)).bind fun x19 => ofO (ltO x18 x19)).bind fun c20 => if c20 = true then Rs.nx true else (((Rs.nx d3).bind fun x13 => (Rs.nx (.int 0)).bind fun x14 => ofO (gtO x13 x14)).bind fun c15 => if c15 = true then (((Rs.nx a_lengths).bind fun x7 => ((Rs.nx d3).bind fun x5 => (Rs.nx (.int 1)).bind fun x6 => intD (· - ·) x5 x6).bind fun x8 => ixD x7 x8).bind fun x11 => ((Rs.nx a_lengths).bind fun x9 => (Rs.nx d3).bind fun x10 => ixD x9 x10).bind fun x12 => ofO (ltO x11 x12)) else Rs.nx false)).to fun c => if c = true then ((Rs.nx (.bl false)).to Out.rt) else (Out.nx ())).bind fun (s21 : Unit) => (Out.nx ()))) ds24 ()).bind fun (s22 : Unit) => ((Rs.nx (.bl true)).to Out.rt))
def f_reading (a_rows : D) : Out Unit Unit := ((((Rs.nx [] : Rs (List D))).bind lstD).to fun found1 => (((Rs.nx a_rows).to fun a10 => (revSeqD a10).to fun ds11 => forL (fun (d2 : D) (s3 : D) => ((Rs.nx none).to fun j4 => (extD j4 s3 ((Rs.nx d2).bind (compS (fun d6 => ((Rs.nx d6).bind fun x7 => (Rs.nx .non).bind fun x8 => ofO (isntO x7 x8))) fun d6 => ((Rs.nx d6).bind at?)))).to fun found5 => (Out.nx found5))) ds11 found1).bind fun (s9 : D) => (((Rs.nx s9).bind (full? 1)).to Out.rt)))
def f_is_stairs (a_rows : D) : Out Unit Unit := (((((((Rs.nx a_rows).bind (compS yes fun d1 => ((Rs.nx d1).bind fun x2 => lenD [x2]))).bind fun x3 => callN (f_is_shape x3)).bind asB).bind fun c4 => Rs.nx (!c4)).to fun c => if c = true then ((Rs.nx (.bl false)).to Out.rt) else (Out.nx ())).bind fun (s5 : Unit) => (((((Rs.nx a_rows).bind fun x6 => lenD [x6]).bind fun x7 => Rs.nx [x7]).to fun a58 => (rngD1 a58).to fun ds59 => forL (fun (d8 : D) (s9 : Unit) => ((((((Rs.nx a_rows).bind fun x10 => (Rs.nx d8).bind fun x11 => ixD x10 x11).bind fun x12 => lenD [x12]).bind fun x13 => Rs.nx [x13]).to fun a49 => (rngD1 a49).to fun ds50 => forL (fun (d14 : D) (s15 : Unit) => (((((Rs.nx d14).bind fun x28 => (Rs.nx (.int 0)).bind fun x29 => ofO (gtO x28 x29)).bind fun c30 => if c30 = true then ((((Rs.nx a_rows).bind fun x16 => (Rs.nx d8).bind fun x17 => ixD x16 x17).bind fun x20 => ((Rs.nx d14).bind fun x18 => (Rs.nx (.int 1)).bind fun x19 => intD (· - ·) x18 x19).bind fun x21 => ixD x20 x21).bind fun x26 => (((Rs.nx a_rows).bind fun x22 => (Rs.nx d8).bind fun x23 => ixD x22 x23).bind fun x24 => (Rs.nx d14).bind fun x25 => ixD x24 x25).bind fun x27 => ofO (geO x26 x27)) else Rs.nx false).to fun c => if c = true then ((Rs.nx (.bl false)).to Out.rt) else (Out.nx ())).bind fun (s31 : Unit) => (((((Rs.nx d8).bind fun x44 => (Rs.nx (.int 0)).bind fun x45 => ofO (gtO x44 x45)).bind fun c46 => if c46 = true then ((((Rs.nx a_rows).bind fun x34 => ((Rs.nx d8).bind fun x32 => (Rs.nx (.int 1)).bind fun x33 => intD (· - ·) x32 x33).bind fun x35 => ixD x34 x35).bind fun x36 => (Rs.nx d14).bind fun x37 => ixD x36 x37).bind fun x42 => (((Rs.nx a_rows).bind fun x38 => (Rs.nx d8).bind fun x39 => ixD x38 x39).bind fun x40 => (Rs.nx d14).bind fun x41 => ixD x40 x41).bind fun x43 => ofO (geO x42 x43)) else Rs.nx false).to fun c => if c = true then ((Rs.nx (.bl false)).to Out.rt) else (Out.nx ())).bind fun (s47 : Unit) => (Out.nx ())))) ds50 ()).bind fun (s48 : Unit) => (Out.nx ()))) ds59 ()).bind fun (s51 : Unit) => (((Rs.nx a_rows).bind fun x53 => callN (f_reading x53)).to fun numbers52 => ((((Rs.nx numbers52).bind fun x54 => setD x54).bind fun x56 => ((Rs.nx numbers52).bind fun x55 => lenD [x55]).bind fun x57 => ofB (eqO x56 x57)).to Out.rt))))
def f_law_drawn (a_script a_k a_many : D) : Out Unit Unit := ((Rs.nx (.int 7)).to fun cell1 => (((((Rs.nx a_script).bind fun x2 => lenD [x2]).bind fun x3 => (Rs.nx (.int 0)).bind fun x4 => ofO (gtO x3 x4)).to fun c => if c = true then ((((Rs.nx a_script).bind fun x10 => ((Rs.nx a_k).bind fun x8 => ((Rs.nx a_script).bind fun x7 => lenD [x7]).bind fun x9 => modD x8 x9).bind fun x11 => ixD x10 x11).bind at?).to fun cell6 => (Out.nx cell6)) else (Out.nx cell1)).bind fun (s5 : D) => (((((Rs.nx s5).bind fun x19 => ((Rs.nx (.int 48271)).bind fun x17 => ((Rs.nx (.int 9973)).bind fun x15 => ((Rs.nx a_k).bind fun x13 => (Rs.nx (.int 97)).bind fun x14 => modD x13 x14).bind fun x16 => mulD x15 x16).bind fun x18 => intD (· + ·) x17 x18).bind fun x20 => mulD x19 x20).bind fun x29 => ((((Rs.nx a_k).bind fun x21 => (Rs.nx (.int 1)).bind fun x22 => intD (· + ·) x21 x22).bind fun x25 => ((Rs.nx a_k).bind fun x23 => (Rs.nx (.int 3)).bind fun x24 => intD (· + ·) x23 x24).bind fun x26 => mulD x25 x26).bind fun x27 => (Rs.nx (.int 16807)).bind fun x28 => mulD x27 x28).bind fun x30 => intD (· + ·) x29 x30).bind fun x32 => ((Rs.nx a_script).bind fun x31 => lenD [x31]).bind fun x33 => intD (· + ·) x32 x33).to fun mixed12 => (((((Rs.nx mixed12).bind fun x34 => (Rs.nx (.int 2147483647)).bind fun x35 => modD x34 x35).bind fun x36 => (Rs.nx (.int 16)).bind fun x37 => divD x36 x37).bind fun x38 => (Rs.nx a_many).bind fun x39 => modD x38 x39).to Out.rt))))
def f_law_row_by (a_script a_bound : D) : Out Unit Unit := ((((Rs.nx a_script).bind fun x6 => (Rs.nx (.int 0)).bind fun x7 => ((Rs.nx (.int 9)).bind fun x4 => ((Rs.nx a_bound).bind fun x2 => (Rs.nx (.int 1)).bind fun x3 => intD (· + ·) x2 x3).bind fun x5 => minD [x4, x5]).bind fun x8 => callN (f_law_drawn x6 x7 x8)).bind at?).to fun many1 => (((((Rs.nx a_script).bind fun x9 => (Rs.nx (.int 1)).bind fun x10 => (Rs.nx (.int 4)).bind fun x11 => callN (f_law_drawn x9 x10 x11)).bind fun x12 => (Rs.nx (.int 1)).bind fun x13 => ofO (eqO x12 x13)).to fun c => if c = true then ((((Rs.nx a_script).bind fun x18 => (Rs.nx (.int 2)).bind fun x19 => ((Rs.nx a_bound).bind fun x16 => (Rs.nx (.int 1)).bind fun x17 => intD (· + ·) x16 x17).bind fun x20 => callN (f_law_drawn x18 x19 x20)).bind at?).to fun many15 => (Out.nx many15)) else (Out.nx many1)).bind fun (s14 : D) => ((((Rs.nx a_script).bind fun x22 => (Rs.nx (.int 3)).bind fun x23 => (Rs.nx (.int 2001)).bind fun x24 => callN (f_law_drawn x22 x23 x24)).bind fun x25 => (Rs.nx (.int 1000)).bind fun x26 => intD (· - ·) x25 x26).to fun number21 => ((((((Rs.nx (.int 1)).bind fun x30 => (Rs.nx (.int 1)).bind fun x31 => ((Rs.nx (.int 10)).bind fun x28 => (Rs.nx (.int 27)).bind fun x29 => powD x28 x29).bind fun x32 => Rs.nx [x30, x31, x32]).bind lstD).bind fun x36 => ((Rs.nx a_script).bind fun x33 => (Rs.nx (.int 4)).bind fun x34 => (Rs.nx (.int 3)).bind fun x35 => callN (f_law_drawn x33 x34 x35)).bind fun x37 => ixD x36 x37).bind at?).to fun great27 => ((((Rs.nx [] : Rs (List D))).bind lstD).to fun order38 => ((((Rs.nx [] : Rs (List D))).bind lstD).to fun numbers39 => ((((Rs.nx s14).bind fun x40 => Rs.nx [x40]).to fun a74 => (rngD1 a74).to fun ds75 => forL (fun (d41 : D) (s42 : D × D × D) => ((Rs.nx none).to fun j43 => (insD j43 s42.2.1 ((Rs.nx a_script).bind fun x51 => ((Rs.nx (.int 10)).bind fun x47 => ((Rs.nx (.int 2)).bind fun x45 => (Rs.nx d41).bind fun x46 => mulD x45 x46).bind fun x48 => intD (· + ·) x47 x48).bind fun x52 => ((Rs.nx d41).bind fun x49 => (Rs.nx (.int 1)).bind fun x50 => intD (· + ·) x49 x50).bind fun x53 => callN (f_law_drawn x51 x52 x53)) ((Rs.nx d41).bind at?)).to fun order44 => ((((Rs.nx s42.1).bind fun x55 => (Rs.nx (.int 1)).bind fun x56 => intD (· + ·) x55 x56).bind fun x66 => (((Rs.nx a_script).bind fun x61 => ((Rs.nx (.int 11)).bind fun x59 => ((Rs.nx (.int 2)).bind fun x57 => (Rs.nx d41).bind fun x58 => mulD x57 x58).bind fun x60 => intD (· + ·) x59 x60).bind fun x62 => (Rs.nx (.int 3)).bind fun x63 => callN (f_law_drawn x61 x62 x63)).bind fun x64 => (Rs.nx great27).bind fun x65 => mulD x64 x65).bind fun x67 => intD (· + ·) x66 x67).to fun number54 => ((Rs.nx none).to fun j68 => (opD j68 appL s42.2.2 ((Rs.nx number54).bind at?)).to fun numbers69 => (Out.nx (number54, order44, numbers69)))))) ds75 (number21, order38, numbers39)).bind fun (s70 : D × D × D) => (((Rs.nx s70.2.1).bind (compS yes fun d71 => (((Rs.nx s70.2.2).bind fun x72 => (Rs.nx d71).bind fun x73 => ixD x72 x73).bind at?))).to Out.rt))))))))
def f_law_lay (a_rows a_number : D) : Out Unit Unit := (((Rs.nx a_rows).bind (compS yes fun d2 => ((Rs.nx d2).bind fun x3 => listD [x3]))).to fun made1 => ((Rs.nx (.int 0)).to fun v_at4 => ((whileF (fun s5 : D × D × D => ((Rs.nx s5.2.2).bind fun x9 => ((Rs.nx s5.2.1).bind fun x8 => lenD [x8]).bind fun x10 => ofO (ltO x9 x10))) (fun s6 : D × D × D => ((((Rs.nx s6.2.1).bind fun x13 => (Rs.nx s6.2.2).bind fun x14 => ixD x13 x14).bind (compS (fun d12 => ((Rs.nx d12).bind fun x15 => (Rs.nx s6.1).bind fun x16 => ofO (gtO x15 x16))) fun d12 => ((Rs.nx d12).bind at?))).to fun greater11 => (((((Rs.nx greater11).bind fun x17 => lenD [x17]).bind fun x18 => (Rs.nx (.int 0)).bind fun x19 => ofO (eqO x18 x19)).to fun c => if c = true then (((Rs.nx s6.2.2).bind fun x21 => (idxD s6.2.1 x21).bind fun j22 => Rs.nx (some j22)).to fun j23 => (opD j23 appL s6.2.1 ((Rs.nx s6.1).bind at?)).to fun made24 => ((((Rs.nx made24).bind fun x25 => (Rs.nx s6.2.2).bind fun x26 => (at? x26).bind fun x26 => Rs.nx (.tup [x25, x26])).bind (full? 3)).to Out.rt)) else (Out.nx s6.2.1)).bind fun (s20 : D) => (((((Rs.nx s20).bind fun x28 => (Rs.nx s6.2.2).bind fun x29 => ixD x28 x29).bind fun x30 => lenD [x30]).bind fun x32 => ((Rs.nx greater11).bind fun x31 => lenD [x31]).bind fun x33 => intD (· - ·) x32 x33).to fun place27 => (((Rs.nx s6.1).bind at?).to fun x36 => ((Rs.nx s6.2.2).bind fun x34 => (idxD s20 x34).bind fun j35 => Rs.nx (some j35)).to fun j37 => (Rs.nx place27).to fun x38 => (edD j37 (setL x38 x36) s20).to fun made39 => ((((Rs.nx greater11).bind fun x41 => (Rs.nx (.int 0)).bind fun x42 => ixD x41 x42).bind at?).to fun number40 => (((Rs.nx s6.2.2).bind fun x44 => (Rs.nx (.int 1)).bind fun x45 => intD (· + ·) x44 x45).to fun v_at43 => (Out.nx (number40, made39, v_at43))))))))) 1000 (a_number, made1, v_at4)).bind fun (s7 : D × D × D) => ((((((((((Rs.nx s7.1).bind at?).bind fun x46 => Rs.nx [x46]).bind lstD).bind fun x47 => Rs.nx [x47]).bind lstD).bind fun x48 => catM s7.2.1 x48).bind fun x49 => (Rs.nx s7.2.2).bind fun x50 => (at? x50).bind fun x50 => Rs.nx (.tup [x49, x50])).bind (full? 3)).to Out.rt))))
def f_law_laid (a_row : D) : Out Unit Unit := ((((Rs.nx [] : Rs (List D))).bind lstD).to fun first1 => ((((Rs.nx [] : Rs (List D))).bind lstD).to fun second2 => (((((Rs.nx a_row).bind fun x3 => lenD [x3]).bind fun x4 => Rs.nx [x4]).to fun a31 => (rngD1 a31).to fun ds32 => forL (fun (d5 : D) (s6 : D × D) => (((Rs.nx s6.1).bind fun x10 => ((Rs.nx a_row).bind fun x8 => (Rs.nx d5).bind fun x9 => ixD x8 x9).bind fun x11 => callN (f_law_lay x10 x11)).to fun grown7 => ((itemAt 0 grown7).to fun first12 => (((((Rs.nx (holeAt 0 grown7)).bind fun x13 => (Rs.nx (.int 1)).bind fun x14 => ixD x13 x14).bind fun x16 => ((Rs.nx s6.2).bind fun x15 => lenD [x15]).bind fun x17 => ofO (eqO x16 x17)).to fun c => if c = true then ((Rs.nx none).to fun j19 => (opD j19 appL s6.2 (((Rs.nx [] : Rs (List D))).bind lstD)).to fun second20 => (Out.nx second20)) else (Out.nx s6.2)).bind fun (s18 : D) => ((((Rs.nx (holeAt 0 grown7)).bind fun x21 => (Rs.nx (.int 1)).bind fun x22 => ixD x21 x22).bind fun x23 => (idxD s18 x23).bind fun j24 => Rs.nx (some j24)).to fun j25 => (opD j25 appL s18 ((Rs.nx d5).bind fun x27 => (Rs.nx (.int 1)).bind fun x28 => intD (· + ·) x27 x28)).to fun second26 => (Out.nx (first12, second26))))))) ds32 (first1, second2)).bind fun (s29 : D × D) => ((((Rs.nx s29.1).bind fun x30 => Rs.nx (.tup [x30, s29.2])).bind (full? 3)).to Out.rt))))
def f_law_spoilt_by (a_script a_rows : D) : Out Unit Unit := ((((Rs.nx a_script).bind fun x2 => (Rs.nx (.int 400)).bind fun x3 => (Rs.nx (.int 5)).bind fun x4 => callN (f_law_drawn x2 x3 x4)).bind at?).to fun way1 => (((((Rs.nx (unpin a_rows)).bind fun x5 => lenD [x5]).bind fun x6 => (Rs.nx (.int 0)).bind fun x7 => ofO (eqO x6 x7)).to fun c => if c = true then (((((((Rs.nx [] : Rs (List D))).bind lstD).bind fun x32 => ((((((Rs.nx [] : Rs (List D))).bind lstD).bind fun x9 => Rs.nx [x9]).bind lstD).bind fun x30 => ((((((Rs.nx (.int 5)).bind fun x10 => Rs.nx [x10]).bind lstD).bind fun x11 => Rs.nx [x11]).bind lstD).bind fun x28 => ((((((Rs.nx (.int 5)).bind fun x12 => Rs.nx [x12]).bind lstD).bind fun x14 => (((Rs.nx (.int 5)).bind fun x13 => Rs.nx [x13]).bind lstD).bind fun x15 => Rs.nx [x14, x15]).bind lstD).bind fun x26 => ((((((Rs.nx (.int 5)).bind fun x16 => (Rs.nx (.int 5)).bind fun x17 => Rs.nx [x16, x17]).bind lstD).bind fun x18 => Rs.nx [x18]).bind lstD).bind fun x24 => ((Rs.nx [] : Rs (List D))).bind fun x25 => Rs.nx (x24 :: x25)).bind fun x27 => Rs.nx (x26 :: x27)).bind fun x29 => Rs.nx (x28 :: x29)).bind fun x31 => Rs.nx (x30 :: x31)).bind fun x33 => Rs.nx (x32 :: x33)).bind lstD).bind fun x34 => (Rs.nx way1).bind fun x35 => ixD x34 x35).to Out.rt) else (Out.nx ())).bind fun (s8 : Unit) => ((((Rs.nx a_script).bind fun x38 => (Rs.nx (.int 401)).bind fun x39 => ((Rs.nx (unpin a_rows)).bind fun x37 => lenD [x37]).bind fun x40 => callN (f_law_drawn x38 x39 x40)).bind at?).to fun v_at36 => ((((Rs.nx a_script).bind fun x45 => (Rs.nx (.int 402)).bind fun x46 => (((Rs.nx (unpin a_rows)).bind fun x42 => (Rs.nx v_at36).bind fun x43 => ixD x42 x43).bind fun x44 => lenD [x44]).bind fun x47 => callN (f_law_drawn x45 x46 x47)).bind at?).to fun j41 => ((((Rs.nx a_script).bind fun x50 => (Rs.nx (.int 403)).bind fun x51 => ((Rs.nx (unpin a_rows)).bind fun x49 => lenD [x49]).bind fun x52 => callN (f_law_drawn x50 x51 x52)).bind at?).to fun other48 => ((((Rs.nx a_script).bind fun x57 => (Rs.nx (.int 404)).bind fun x58 => (((Rs.nx (unpin a_rows)).bind fun x54 => (Rs.nx other48).bind fun x55 => ixD x54 x55).bind fun x56 => lenD [x56]).bind fun x59 => callN (f_law_drawn x57 x58 x59)).bind at?).to fun m53 => ((((Rs.nx way1).bind fun x60 => (Rs.nx (.int 1)).bind fun x61 => ofO (eqO x60 x61)).to fun c => if c = true then ((((((Rs.nx (unpin a_rows)).bind fun x63 => (Rs.nx other48).bind fun x64 => ixD x63 x64).bind fun x65 => (Rs.nx m53).bind fun x66 => ixD x65 x66).bind fun x70 => ((Rs.nx a_script).bind fun x67 => (Rs.nx (.int 405)).bind fun x68 => (Rs.nx (.int 3)).bind fun x69 => callN (f_law_drawn x67 x68 x69)).bind fun x71 => intD (· + ·) x70 x71).bind fun x72 => (Rs.nx (.int 1)).bind fun x73 => intD (· - ·) x72 x73).to fun x76 => ((Rs.nx v_at36).bind fun x74 => (idxD a_rows x74).bind fun j75 => Rs.nx (some j75)).to fun j77 => (Rs.nx j41).to fun x78 => (edD j77 (setL x78 x76) a_rows).to fun rows79 => (Out.nx rows79)) else (Out.nx a_rows)).bind fun (s62 : D) => ((((Rs.nx way1).bind fun x80 => (Rs.nx (.int 2)).bind fun x81 => ofO (eqO x80 x81)).to fun c => if c = true then (((((Rs.nx (unpin s62)).bind fun x84 => (Rs.nx v_at36).bind fun x85 => ixD x84 x85).bind fun x86 => (Rs.nx j41).bind fun x87 => ixD x86 x87).bind at?).to fun kept83 => (((((Rs.nx (unpin s62)).bind fun x88 => (Rs.nx other48).bind fun x89 => ixD x88 x89).bind fun x90 => (Rs.nx m53).bind fun x91 => ixD x90 x91).bind at?).to fun x94 => ((Rs.nx v_at36).bind fun x92 => (idxD s62 x92).bind fun j93 => Rs.nx (some j93)).to fun j95 => (Rs.nx j41).to fun x96 => (edD j95 (setL x96 x94) s62).to fun rows97 => (((Rs.nx kept83).bind at?).to fun x100 => ((Rs.nx other48).bind fun x98 => (idxD rows97 x98).bind fun j99 => Rs.nx (some j99)).to fun j101 => (Rs.nx m53).to fun x102 => (edD j101 (setL x102 x100) rows97).to fun rows103 => (Out.nx rows103)))) else (Out.nx s62)).bind fun (s82 : D) => ((((Rs.nx way1).bind fun x104 => (Rs.nx (.int 3)).bind fun x105 => ofO (eqO x104 x105)).to fun c => if c = true then ((insP s82 (popAtD s82 v_at36) (Rs.nx other48) (itemOf s82 v_at36)).to fun rows108 => (Out.nx rows108)) else (Out.nx s82)).bind fun (s106 : D) => ((((Rs.nx way1).bind fun x109 => (Rs.nx (.int 4)).bind fun x110 => ofO (eqO x109 x110)).to fun c => if c = true then ((Rs.nx none).to fun j112 => (insD j112 s106 (Rs.nx v_at36) (((Rs.nx [] : Rs (List D))).bind lstD)).to fun rows113 => (Out.nx rows113)) else (Out.nx s106)).bind fun (s111 : D) => ((Rs.nx (unpin s111)).to Out.rt)))))))))))
def f_law_shape (a_rows : D) : Out Unit Unit := (((((Rs.nx a_rows).bind fun x1 => lenD [x1]).bind fun x2 => Rs.nx [x2]).to fun a28 => (rngD1 a28).to fun ds29 => forL (fun (d3 : D) (s4 : Unit) => (((((((Rs.nx a_rows).bind fun x20 => (Rs.nx d3).bind fun x21 => ixD x20 x21).bind fun x22 => lenD [x22]).bind fun x23 => (Rs.nx (.int 0)).bind fun x24 => ofO (eqO x23 x24)).bind fun c25 => if c25 = true then Rs.nx true else (((((Rs.nx a_rows).bind fun x8 => (Rs.nx none).bind fun l9 => ((Rs.nx d3).bind fun x6 => (asI x6).bind fun i7 => Rs.nx (some i7)).bind fun h10 => cutRD x8 l9 h10).bind (filtD fun d5 => (((Rs.nx d5).bind fun x11 => lenD [x11]).bind fun x15 => (((Rs.nx a_rows).bind fun x12 => (Rs.nx d3).bind fun x13 => ixD x12 x13).bind fun x14 => lenD [x14]).bind fun x16 => ofO (ltO x15 x16)))).bind fun x17 => lenD [x17]).bind fun x18 => (Rs.nx (.int 0)).bind fun x19 => ofO (gtO x18 x19))).to fun c => if c = true then ((Rs.nx (.bl false)).to Out.rt) else (Out.nx ())).bind fun (s26 : Unit) => (Out.nx ()))) ds29 ()).bind fun (s27 : Unit) => ((Rs.nx (.bl true)).to Out.rt))
def f_law_stairs_k01 (a_rows : D) : Out Unit Unit := ((((((Rs.nx a_rows).bind fun x1 => callN (f_law_shape x1)).bind asB).bind fun c2 => Rs.nx (!c2)).to fun c => if c = true then ((Rs.nx (.bl false)).to Out.rt) else (Out.nx ())).bind fun (s3 : Unit) => ((((Rs.nx [] : Rs (List D))).bind lstD).to fun spots4 => (((((Rs.nx a_rows).bind fun x5 => lenD [x5]).bind fun x6 => Rs.nx [x6]).to fun a74 => (rngD1 a74).to fun ds75 => forL (fun (d7 : D) (s8 : D) => ((Rs.nx none).to fun j9 => (extOD j9 s8 (((((Rs.nx a_rows).bind fun x12 => (Rs.nx d7).bind fun x13 => ixD x12 x13).bind fun x14 => lenD [x14]).bind fun x15 => Rs.nx [x15]).bind fun a18 => (rng1 a18).bind (compRg yes fun d11 => ((((Rs.nx d7).bind at?).bind fun x16 => ((Rs.nx d11).bind at?).bind fun x17 => Rs.nx [x16, x17]).bind lstD)))).to fun spots10 => (Out.nx spots10))) ds75 spots4).bind fun (s19 : D) => (((Rs.nx s19).to fun a72 => (seqD a72).to fun ds73 => forL (fun (d20 : D) (s21 : Unit) => (((Rs.nx s19).to fun a69 => (seqD a69).to fun ds70 => forL (fun (d22 : D) (s23 : Unit) => (((((Rs.nx a_rows).bind fun x27 => ((Rs.nx d20).bind fun x25 => (Rs.nx (.int 0)).bind fun x26 => ixD x25 x26).bind fun x28 => ixD x27 x28).bind fun x31 => ((Rs.nx d20).bind fun x29 => (Rs.nx (.int 1)).bind fun x30 => ixD x29 x30).bind fun x32 => ixD x31 x32).bind at?).to fun here24 => (((((Rs.nx a_rows).bind fun x36 => ((Rs.nx d22).bind fun x34 => (Rs.nx (.int 0)).bind fun x35 => ixD x34 x35).bind fun x37 => ixD x36 x37).bind fun x40 => ((Rs.nx d22).bind fun x38 => (Rs.nx (.int 1)).bind fun x39 => ixD x38 x39).bind fun x41 => ixD x40 x41).bind at?).to fun there33 => (((((Rs.nx d20).bind fun x44 => (Rs.nx d22).bind fun x45 => ofO (neO x44 x45)).bind fun c46 => if c46 = true then ((Rs.nx here24).bind fun x42 => (Rs.nx there33).bind fun x43 => ofO (eqO x42 x43)) else Rs.nx false).to fun c => if c = true then ((Rs.nx (.bl false)).to Out.rt) else (Out.nx ())).bind fun (s47 : Unit) => (((((Rs.nx d20).bind fun x64 => (Rs.nx d22).bind fun x65 => ofO (neO x64 x65)).bind fun c66 => if c66 = true then ((((Rs.nx d20).bind fun x57 => (Rs.nx (.int 0)).bind fun x58 => ixD x57 x58).bind fun x61 => ((Rs.nx d22).bind fun x59 => (Rs.nx (.int 0)).bind fun x60 => ixD x59 x60).bind fun x62 => ofO (leO x61 x62)).bind fun c63 => if c63 = true then ((((Rs.nx d20).bind fun x50 => (Rs.nx (.int 1)).bind fun x51 => ixD x50 x51).bind fun x54 => ((Rs.nx d22).bind fun x52 => (Rs.nx (.int 1)).bind fun x53 => ixD x52 x53).bind fun x55 => ofO (leO x54 x55)).bind fun c56 => if c56 = true then ((Rs.nx here24).bind fun x48 => (Rs.nx there33).bind fun x49 => ofO (gtO x48 x49)) else Rs.nx false) else Rs.nx false) else Rs.nx false).to fun c => if c = true then ((Rs.nx (.bl false)).to Out.rt) else (Out.nx ())).bind fun (s67 : Unit) => (Out.nx ())))))) ds70 ()).bind fun (s68 : Unit) => (Out.nx ()))) ds73 ()).bind fun (s71 : Unit) => ((Rs.nx (.bl true)).to Out.rt)))))
noncomputable def f_law_k01 (a_script : D) : Out Unit Unit := (((Rs.nx a_script).bind fun x5 => ((((Rs.nx a_script).bind fun x2 => (Rs.nx (.int 40)).bind fun x3 => callN (f_law_row_by x2 x3)).bind fun x4 => callN (f_law_laid x4)).bind (itemAt 0)).bind fun x6 => callJO (f_law_spoilt_by x5) x6).to fun rows1 => (((Rs.nx rows1).bind (compS yes fun d8 => ((Rs.nx d8).bind fun x9 => lenD [x9]))).to fun lengths7 => (((Rs.nx rows1).bind (compS yes fun d11 => ((Rs.nx d11).bind fun x12 => listD [x12]))).to fun handed10 => (((Rs.nx lengths7).bind fun x14 => listD [x14]).to fun told13 => ((((Rs.nx told13).bind fun x16 => callN (f_is_shape x16)).bind at?).to fun found15 => (((((((Rs.nx found15).bind fun x23 => ofB (isiO "bool" x23)).bind asB).bind fun c24 => Rs.nx (!c24)).bind fun c25 => if c25 = true then Rs.nx true else (((Rs.nx found15).bind fun x20 => ((Rs.nx rows1).bind fun x19 => callN (f_law_shape x19)).bind fun x21 => ofO (neO x20 x21)).bind fun c22 => if c22 = true then Rs.nx true else ((Rs.nx told13).bind fun x17 => (Rs.nx lengths7).bind fun x18 => ofO (neO x17 x18)))).to fun c => if c = true then ((Rs.nx (.bl false)).to Out.rt) else (Out.nx ())).bind fun (s26 : Unit) => ((((Rs.nx handed10).bind fun x28 => callN (f_is_stairs x28)).bind at?).to fun found27 => ((((Rs.nx found27).bind fun x35 => ofB (isiO "bool" x35)).bind fun x36 => andD x36 (((Rs.nx found27).bind fun x32 => ((Rs.nx rows1).bind fun x31 => callN (f_law_stairs_k01 x31)).bind fun x33 => ofB (eqO x32 x33)).bind fun x34 => andD x34 ((Rs.nx handed10).bind fun x29 => (Rs.nx rows1).bind fun x30 => ofB (eqO x29 x30)))).to Out.rt))))))))
def f_shape (a_rows : D) : Out Unit Unit := (((Rs.nx a_rows).bind (compS yes fun d1 => ((Rs.nx d1).bind fun x2 => lenD [x2]))).to Out.rt)
def f_turned (a_rows : D) : Out Unit Unit := (((((Rs.nx a_rows).bind fun x1 => lenD [x1]).bind fun x2 => (Rs.nx (.int 0)).bind fun x3 => ofO (eqO x2 x3)).to fun c => if c = true then ((((Rs.nx [] : Rs (List D))).bind lstD).to Out.rt) else (Out.nx ())).bind fun (s4 : Unit) => ((((((Rs.nx a_rows).bind fun x6 => (Rs.nx (.int 0)).bind fun x7 => ixD x6 x7).bind fun x8 => lenD [x8]).bind fun x9 => Rs.nx [x9]).bind fun a16 => (rng1 a16).bind (compRg yes fun d5 => ((Rs.nx a_rows).bind (compS (fun d10 => (((Rs.nx d10).bind fun x13 => lenD [x13]).bind fun x14 => (Rs.nx d5).bind fun x15 => ofO (gtO x14 x15))) fun d10 => (((Rs.nx d10).bind fun x11 => (Rs.nx d5).bind fun x12 => ixD x11 x12).bind at?))))).to Out.rt))
def f_law_whole (a_found : D) : Out Unit Unit := ((((Rs.nx a_found).bind fun x2 => ofB (isiO "int" x2)).bind fun x3 => andD x3 (((Rs.nx a_found).bind fun x1 => ofB (isiO "bool" x1)).bind notD)).to Out.rt)
def f_law_row (a_found a_due : D) : Out Unit Unit := (((((((Rs.nx a_found).bind fun x5 => ofB (isiO "list" x5)).bind asB).bind fun c6 => Rs.nx (!c6)).bind fun c7 => if c7 = true then Rs.nx true else (((Rs.nx a_found).bind fun x1 => lenD [x1]).bind fun x3 => ((Rs.nx a_due).bind fun x2 => lenD [x2]).bind fun x4 => ofO (neO x3 x4))).to fun c => if c = true then ((Rs.nx (.bl false)).to Out.rt) else (Out.nx ())).bind fun (s8 : Unit) => (((((Rs.nx a_due).bind fun x9 => lenD [x9]).bind fun x10 => Rs.nx [x10]).to fun a46 => (rngD1 a46).to fun ds47 => forL (fun (d11 : D) (s12 : Unit) => ((((((Rs.nx a_due).bind fun x17 => (Rs.nx d11).bind fun x18 => ixD x17 x18).bind fun x19 => (Rs.nx .non).bind fun x20 => ofO (isO x19 x20)).bind fun c21 => if c21 = true then Rs.nx true else (((Rs.nx a_found).bind fun x13 => (Rs.nx d11).bind fun x14 => ixD x13 x14).bind fun x15 => (Rs.nx .non).bind fun x16 => ofO (isO x15 x16))).to fun c => if c = true then ((((((Rs.nx a_due).bind fun x27 => (Rs.nx d11).bind fun x28 => ixD x27 x28).bind fun x29 => (Rs.nx .non).bind fun x30 => ofO (isntO x29 x30)).bind fun c31 => if c31 = true then Rs.nx true else (((Rs.nx a_found).bind fun x23 => (Rs.nx d11).bind fun x24 => ixD x23 x24).bind fun x25 => (Rs.nx .non).bind fun x26 => ofO (isntO x25 x26))).to fun c => if c = true then ((Rs.nx (.bl false)).to Out.rt) else (Out.nx ())).bind fun (s32 : Unit) => (Out.nx ())) else ((((((((Rs.nx a_found).bind fun x39 => (Rs.nx d11).bind fun x40 => ixD x39 x40).bind fun x41 => callN (f_law_whole x41)).bind asB).bind fun c42 => Rs.nx (!c42)).bind fun c43 => if c43 = true then Rs.nx true else (((Rs.nx a_found).bind fun x33 => (Rs.nx d11).bind fun x34 => ixD x33 x34).bind fun x37 => ((Rs.nx a_due).bind fun x35 => (Rs.nx d11).bind fun x36 => ixD x35 x36).bind fun x38 => ofO (neO x37 x38))).to fun c => if c = true then ((Rs.nx (.bl false)).to Out.rt) else (Out.nx ())).bind fun (s44 : Unit) => (Out.nx ()))).bind fun (s22 : Unit) => (Out.nx ()))) ds47 ()).bind fun (s45 : Unit) => ((Rs.nx (.bl true)).to Out.rt)))
def f_law_rows (a_found a_due : D) : Out Unit Unit := (((((((Rs.nx a_found).bind fun x5 => ofB (isiO "list" x5)).bind asB).bind fun c6 => Rs.nx (!c6)).bind fun c7 => if c7 = true then Rs.nx true else (((Rs.nx a_found).bind fun x1 => lenD [x1]).bind fun x3 => ((Rs.nx a_due).bind fun x2 => lenD [x2]).bind fun x4 => ofO (neO x3 x4))).to fun c => if c = true then ((Rs.nx (.bl false)).to Out.rt) else (Out.nx ())).bind fun (s8 : Unit) => (((((Rs.nx a_due).bind fun x9 => lenD [x9]).bind fun x10 => Rs.nx [x10]).to fun a22 => (rngD1 a22).to fun ds23 => forL (fun (d11 : D) (s12 : Unit) => (((((((Rs.nx a_found).bind fun x13 => (Rs.nx d11).bind fun x14 => ixD x13 x14).bind fun x17 => ((Rs.nx a_due).bind fun x15 => (Rs.nx d11).bind fun x16 => ixD x15 x16).bind fun x18 => callN (f_law_row x17 x18)).bind asB).bind fun c19 => Rs.nx (!c19)).to fun c => if c = true then ((Rs.nx (.bl false)).to Out.rt) else (Out.nx ())).bind fun (s20 : Unit) => (Out.nx ()))) ds23 ()).bind fun (s21 : Unit) => ((Rs.nx (.bl true)).to Out.rt)))
def f_law_columns (a_rows : D) : Out Unit Unit := ((((Rs.nx [] : Rs (List D))).bind lstD).to fun made1 => (((Rs.nx a_rows).to fun a24 => (seqD a24).to fun ds25 => forL (fun (d2 : D) (s3 : D) => (((((Rs.nx d2).bind fun x4 => lenD [x4]).bind fun x5 => Rs.nx [x5]).to fun a21 => (rngD1 a21).to fun ds22 => forL (fun (d6 : D) (s7 : D) => ((((Rs.nx d6).bind fun x9 => ((Rs.nx s7).bind fun x8 => lenD [x8]).bind fun x10 => ofO (eqO x9 x10)).to fun c => if c = true then ((Rs.nx none).to fun j12 => (opD j12 appL s7 (((Rs.nx [] : Rs (List D))).bind lstD)).to fun made13 => (Out.nx made13)) else (Out.nx s7)).bind fun (s11 : D) => (((Rs.nx d6).bind fun x14 => (idxD s11 x14).bind fun j15 => Rs.nx (some j15)).to fun j16 => (opD j16 appL s11 (((Rs.nx d2).bind fun x18 => (Rs.nx d6).bind fun x19 => ixD x18 x19).bind at?)).to fun made17 => (Out.nx made17)))) ds22 s3).bind fun (s20 : D) => (Out.nx s20))) ds25 made1).bind fun (s23 : D) => (((Rs.nx s23).bind (full? 2)).to Out.rt)))
def f_law_k02 (a_script : D) : Out Unit Unit := (((((Rs.nx a_script).bind fun x2 => (Rs.nx (.int 40)).bind fun x3 => callN (f_law_row_by x2 x3)).bind fun x4 => callN (f_law_laid x4)).bind (itemAt 0)).to fun rows1 => (((Rs.nx rows1).bind (compS yes fun d6 => ((Rs.nx d6).bind fun x7 => listD [x7]))).to fun handed5 => (((Rs.nx handed5).bind fun x9 => callN (f_shape x9)).to fun lengths8 => (((Rs.nx handed5).bind fun x11 => callN (f_reading x11)).to fun numbers10 => (((Rs.nx handed5).bind fun x13 => callN (f_turned x13)).to fun columns12 => ((((Rs.nx [] : Rs (List D))).bind lstD).to fun due14 => (((Rs.nx rows1).to fun a54 => (seqD a54).to fun ds55 => forL (fun (d15 : D) (s16 : D) => (((Rs.nx d15).bind fun x18 => (Rs.nx s16).bind fun x19 => catD x18 x19).to fun due17 => (Out.nx due17))) ds55 due14).bind fun (s20 : D) => (((((((Rs.nx lengths8).bind fun x26 => ((Rs.nx rows1).bind (compS yes fun d24 => ((Rs.nx d24).bind fun x25 => lenD [x25]))).bind fun x27 => callN (f_law_row x26 x27)).bind asB).bind fun c28 => Rs.nx (!c28)).bind fun c29 => if c29 = true then Rs.nx true else ((((Rs.nx numbers10).bind fun x21 => (Rs.nx s20).bind fun x22 => callN (f_law_row x21 x22)).bind asB).bind fun c23 => Rs.nx (!c23))).to fun c => if c = true then ((Rs.nx (.bl false)).to Out.rt) else (Out.nx ())).bind fun (s30 : Unit) => (((((((Rs.nx columns12).bind fun x36 => ((Rs.nx rows1).bind fun x35 => callN (f_law_columns x35)).bind fun x37 => callN (f_law_rows x36 x37)).bind asB).bind fun c38 => Rs.nx (!c38)).bind fun c39 => if c39 = true then Rs.nx true else (((((Rs.nx columns12).bind fun x31 => callN (f_turned x31)).bind fun x32 => (Rs.nx rows1).bind fun x33 => callN (f_law_rows x32 x33)).bind asB).bind fun c34 => Rs.nx (!c34))).to fun c => if c = true then ((Rs.nx (.bl false)).to Out.rt) else (Out.nx ())).bind fun (s40 : Unit) => ((Rs.nx none).to fun j41 => (opD j41 appL lengths8 (Rs.nx (.int 1))).to fun lengths42 => ((Rs.nx none).to fun j43 => (opD j43 appL numbers10 (Rs.nx (.int 1))).to fun numbers44 => ((Rs.nx none).to fun j45 => (opD j45 appL columns12 (((Rs.nx (.int 1)).bind fun x47 => Rs.nx [x47]).bind lstD)).to fun columns46 => (((((Rs.nx handed5).bind fun x50 => callN (f_reading x50)).bind fun x51 => (Rs.nx s20).bind fun x52 => callN (f_law_row x51 x52)).bind fun x53 => andD x53 ((Rs.nx handed5).bind fun x48 => (Rs.nx rows1).bind fun x49 => callN (f_law_rows x48 x49))).to Out.rt)))))))))))))
def f_place_in (a_row a_number : D) : Out Unit Unit := (((((Rs.nx a_row).bind fun x1 => lenD [x1]).bind fun x2 => Rs.nx [x2]).to fun a12 => (rngD1 a12).to fun ds13 => forL (fun (d3 : D) (s4 : Unit) => (((((Rs.nx a_row).bind fun x5 => (Rs.nx d3).bind fun x6 => ixD x5 x6).bind fun x7 => (Rs.nx a_number).bind fun x8 => ofO (gtO x7 x8)).to fun c => if c = true then ((Rs.nx d3).to Out.rt) else (Out.nx ())).bind fun (s9 : Unit) => (Out.nx ()))) ds13 ()).bind fun (s10 : Unit) => (((Rs.nx a_row).bind fun x11 => lenD [x11]).to Out.rt))
def f_lay_in (a_rows a_number : D) : Out Unit Unit := (((Rs.nx a_rows).bind (compS yes fun d2 => ((Rs.nx d2).bind fun x3 => listD [x3]))).to fun made1 => ((Rs.nx (.int 0)).to fun v_at4 => ((whileF (fun s5 : D × D × D => ((Rs.nx s5.2.2).bind fun x9 => ((Rs.nx s5.2.1).bind fun x8 => lenD [x8]).bind fun x10 => ofO (ltO x9 x10))) (fun s6 : D × D × D => (((((Rs.nx s6.2.1).bind fun x12 => (Rs.nx s6.2.2).bind fun x13 => ixD x12 x13).bind fun x14 => (Rs.nx s6.1).bind fun x15 => callN (f_place_in x14 x15)).bind at?).to fun j11 => ((((Rs.nx j11).bind fun x19 => (((Rs.nx s6.2.1).bind fun x16 => (Rs.nx s6.2.2).bind fun x17 => ixD x16 x17).bind fun x18 => lenD [x18]).bind fun x20 => ofO (eqO x19 x20)).to fun c => if c = true then (((Rs.nx s6.2.2).bind fun x22 => (idxD s6.2.1 x22).bind fun j23 => Rs.nx (some j23)).to fun j24 => (opD j24 appL s6.2.1 ((Rs.nx s6.1).bind at?)).to fun made25 => ((((Rs.nx made25).bind fun x26 => (Rs.nx s6.2.2).bind fun x27 => (at? x27).bind fun x27 => Rs.nx (.tup [x26, x27])).bind (full? 3)).to Out.rt)) else (Out.nx s6.2.1)).bind fun (s21 : D) => (((((Rs.nx s21).bind fun x29 => (Rs.nx s6.2.2).bind fun x30 => ixD x29 x30).bind fun x31 => (Rs.nx j11).bind fun x32 => ixD x31 x32).bind at?).to fun pushed28 => (((Rs.nx s6.1).bind at?).to fun x35 => ((Rs.nx s6.2.2).bind fun x33 => (idxD s21 x33).bind fun j34 => Rs.nx (some j34)).to fun j36 => (Rs.nx j11).to fun x37 => (edD j36 (setL x37 x35) s21).to fun made38 => (((Rs.nx pushed28).bind at?).to fun number39 => (((Rs.nx s6.2.2).bind fun x41 => (Rs.nx (.int 1)).bind fun x42 => intD (· + ·) x41 x42).to fun v_at40 => (Out.nx (number39, made38, v_at40))))))))) 1000 (a_number, made1, v_at4)).bind fun (s7 : D × D × D) => ((Rs.nx none).to fun j43 => (opD j43 appL s7.2.1 ((((Rs.nx s7.1).bind at?).bind fun x45 => Rs.nx [x45]).bind lstD)).to fun made44 => ((((Rs.nx made44).bind fun x46 => (Rs.nx s7.2.2).bind fun x47 => (at? x47).bind fun x47 => Rs.nx (.tup [x46, x47])).bind (full? 3)).to Out.rt)))))
def f_law_k03 (a_script : D) : Out Unit Unit := ((((Rs.nx a_script).bind fun x2 => (Rs.nx (.int 39)).bind fun x3 => callN (f_law_row_by x2 x3)).bind fun x4 => (((Rs.nx [] : Rs (List D))).bind lstD).bind fun x5 => catD x4 x5).to fun row1 => (((((Rs.nx row1).bind fun x6 => lenD [x6]).bind fun x7 => (Rs.nx (.int 0)).bind fun x8 => ofO (eqO x7 x8)).to fun c => if c = true then ((((((Rs.nx a_script).bind fun x11 => (Rs.nx (.int 400)).bind fun x12 => (Rs.nx (.int 100)).bind fun x13 => callN (f_law_drawn x11 x12 x13)).bind fun x14 => (Rs.nx (.int 50)).bind fun x15 => intD (· - ·) x14 x15).bind fun x16 => Rs.nx [x16]).bind lstD).to fun row10 => (Out.nx row10)) else (Out.nx row1)).bind fun (s9 : D) => (((((((Rs.nx s9).bind fun x19 => indexD x19 ((Rs.nx s9).bind fun x18 => minD [x18])).bind fun x28 => ((Rs.nx s9).bind fun x22 => indexD x22 ((Rs.nx s9).bind fun x21 => maxD [x21])).bind fun x29 => ((Rs.nx a_script).bind fun x25 => (Rs.nx (.int 401)).bind fun x26 => ((Rs.nx s9).bind fun x24 => lenD [x24]).bind fun x27 => callN (f_law_drawn x25 x26 x27)).bind fun x30 => Rs.nx [x28, x29, x30]).bind lstD).bind fun x34 => ((Rs.nx a_script).bind fun x31 => (Rs.nx (.int 402)).bind fun x32 => (Rs.nx (.int 3)).bind fun x33 => callN (f_law_drawn x31 x32 x33)).bind fun x35 => ixD x34 x35).bind at?).to fun v_at17 => ((itemOf s9 v_at17).to fun number36 => ((((Rs.nx (popAtD s9 v_at17)).bind fun x38 => callN (f_law_laid x38)).bind (itemAt 0)).to fun rows37 => (((Rs.nx rows37).bind fun x40 => (Rs.nx number36).bind fun x41 => callN (f_law_lay x40 x41)).to fun due39 => (((Rs.nx rows37).bind (compS yes fun d43 => ((Rs.nx d43).bind fun x44 => listD [x44]))).to fun handed42 => (((Rs.nx handed42).bind fun x46 => (Rs.nx number36).bind fun x47 => callN (f_lay_in x46 x47)).to fun found45 => (((((((Rs.nx found45).bind fun x55 => ofB (isiO "tuple" x55)).bind asB).bind fun c56 => Rs.nx (!c56)).bind fun c57 => if c57 = true then Rs.nx true else ((((Rs.nx found45).bind fun x51 => lenD [x51]).bind fun x52 => (Rs.nx (.int 2)).bind fun x53 => ofO (neO x52 x53)).bind fun c54 => if c54 = true then Rs.nx true else ((((Rs.nx handed42).bind fun x48 => (Rs.nx rows37).bind fun x49 => callN (f_law_rows x48 x49)).bind asB).bind fun c50 => Rs.nx (!c50)))).to fun c => if c = true then ((Rs.nx (.bl false)).to Out.rt) else (Out.nx ())).bind fun (s58 : Unit) => ((((((((Rs.nx found45).bind fun x70 => (Rs.nx (.int 0)).bind fun x71 => ixD x70 x71).bind fun x74 => ((Rs.nx due39).bind fun x72 => (Rs.nx (.int 0)).bind fun x73 => ixD x72 x73).bind fun x75 => callN (f_law_rows x74 x75)).bind asB).bind fun c76 => Rs.nx (!c76)).bind fun c77 => if c77 = true then Rs.nx true else ((((((Rs.nx found45).bind fun x65 => (Rs.nx (.int 1)).bind fun x66 => ixD x65 x66).bind fun x67 => callN (f_law_whole x67)).bind asB).bind fun c68 => Rs.nx (!c68)).bind fun c69 => if c69 = true then Rs.nx true else (((Rs.nx found45).bind fun x59 => (Rs.nx (.int 1)).bind fun x60 => ixD x59 x60).bind fun x63 => ((Rs.nx due39).bind fun x61 => (Rs.nx (.int 1)).bind fun x62 => ixD x61 x62).bind fun x64 => ofO (neO x63 x64)))).to fun c => if c = true then ((Rs.nx (.bl false)).to Out.rt) else (Out.nx ())).bind fun (s78 : Unit) => ((itemAt 0 found45).to fun d81 => (appAllD d81).to fun u82 => (((Rs.nx handed42).bind fun x79 => (Rs.nx rows37).bind fun x80 => callN (f_law_rows x79 x80)).to Out.rt))))))))))))
def f_laid (a_row : D) : Out Unit Unit := ((((Rs.nx [] : Rs (List D))).bind lstD).to fun first1 => ((((Rs.nx [] : Rs (List D))).bind lstD).to fun second2 => (((((Rs.nx a_row).bind fun x3 => lenD [x3]).bind fun x4 => Rs.nx [x4]).to fun a31 => (rngD1 a31).to fun ds32 => forL (fun (d5 : D) (s6 : D × D) => (((Rs.nx s6.1).bind fun x10 => ((Rs.nx a_row).bind fun x8 => (Rs.nx d5).bind fun x9 => ixD x8 x9).bind fun x11 => callN (f_lay_in x10 x11)).to fun grown7 => ((itemAt 0 grown7).to fun first12 => (((((Rs.nx (holeAt 0 grown7)).bind fun x13 => (Rs.nx (.int 1)).bind fun x14 => ixD x13 x14).bind fun x16 => ((Rs.nx s6.2).bind fun x15 => lenD [x15]).bind fun x17 => ofO (eqO x16 x17)).to fun c => if c = true then ((Rs.nx none).to fun j19 => (opD j19 appL s6.2 (((Rs.nx [] : Rs (List D))).bind lstD)).to fun second20 => (Out.nx second20)) else (Out.nx s6.2)).bind fun (s18 : D) => ((((Rs.nx (holeAt 0 grown7)).bind fun x21 => (Rs.nx (.int 1)).bind fun x22 => ixD x21 x22).bind fun x23 => (idxD s18 x23).bind fun j24 => Rs.nx (some j24)).to fun j25 => (opD j25 appL s18 ((Rs.nx d5).bind fun x27 => (Rs.nx (.int 1)).bind fun x28 => intD (· + ·) x27 x28)).to fun second26 => (Out.nx (first12, second26))))))) ds32 (first1, second2)).bind fun (s29 : D × D) => ((((Rs.nx s29.1).bind fun x30 => Rs.nx (.tup [x30, s29.2])).bind (full? 3)).to Out.rt))))
def f_law_k04 (a_script : D) : Out Unit Unit := (((Rs.nx a_script).bind fun x2 => (Rs.nx (.int 40)).bind fun x3 => callN (f_law_row_by x2 x3)).to fun row1 => ((((Rs.nx a_script).bind fun x5 => (Rs.nx (.int 400)).bind fun x6 => (Rs.nx (.int 5)).bind fun x7 => callN (f_law_drawn x5 x6 x7)).bind at?).to fun way4 => ((((Rs.nx way4).bind fun x8 => (Rs.nx (.int 1)).bind fun x9 => ofO (eqO x8 x9)).to fun c => if c = true then (((Rs.nx row1).bind fun x12 => sortedD [x12]).to fun row11 => (Out.nx row11)) else (Out.nx row1)).bind fun (s10 : D) => ((((Rs.nx way4).bind fun x13 => (Rs.nx (.int 2)).bind fun x14 => ofO (eqO x13 x14)).to fun c => if c = true then ((((Rs.nx s10).bind fun x18 => sortedD [x18]).bind (compS yes fun d17 => ((Rs.nx (.int 0)).bind fun x19 => (Rs.nx d17).bind fun x20 => intD (· - ·) x19 x20))).to fun row16 => (Out.nx row16)) else (Out.nx s10)).bind fun (s15 : D) => (((Rs.nx s15).bind fun x22 => callN (f_law_laid x22)).to fun due21 => ((((Rs.nx (.int 2)).bind fun x23 => Rs.nx [x23]).to fun a68 => (rngD1 a68).to fun ds69 => forL (fun (d24 : D) (s25 : Unit) => (((Rs.nx s15).bind fun x27 => listD [x27]).to fun handed26 => (((Rs.nx handed26).bind fun x29 => callN (f_laid x29)).to fun found28 => (((((((Rs.nx found28).bind fun x37 => ofB (isiO "tuple" x37)).bind asB).bind fun c38 => Rs.nx (!c38)).bind fun c39 => if c39 = true then Rs.nx true else ((((Rs.nx found28).bind fun x33 => lenD [x33]).bind fun x34 => (Rs.nx (.int 2)).bind fun x35 => ofO (neO x34 x35)).bind fun c36 => if c36 = true then Rs.nx true else ((((Rs.nx handed26).bind fun x30 => (Rs.nx s15).bind fun x31 => callN (f_law_row x30 x31)).bind asB).bind fun c32 => Rs.nx (!c32)))).to fun c => if c = true then ((Rs.nx (.bl false)).to Out.rt) else (Out.nx ())).bind fun (s40 : Unit) => ((((((((Rs.nx found28).bind fun x48 => (Rs.nx (.int 0)).bind fun x49 => ixD x48 x49).bind fun x52 => ((Rs.nx due21).bind fun x50 => (Rs.nx (.int 0)).bind fun x51 => ixD x50 x51).bind fun x53 => callN (f_law_rows x52 x53)).bind asB).bind fun c54 => Rs.nx (!c54)).bind fun c55 => if c55 = true then Rs.nx true else (((((Rs.nx found28).bind fun x41 => (Rs.nx (.int 1)).bind fun x42 => ixD x41 x42).bind fun x45 => ((Rs.nx due21).bind fun x43 => (Rs.nx (.int 1)).bind fun x44 => ixD x43 x44).bind fun x46 => callN (f_law_rows x45 x46)).bind asB).bind fun c47 => Rs.nx (!c47))).to fun c => if c = true then ((Rs.nx (.bl false)).to Out.rt) else (Out.nx ())).bind fun (s56 : Unit) => (((Rs.nx (.int 0)).bind fun x57 => (idxD found28 x57).bind fun j58 => Rs.nx (some j58)).to fun j59 => (opD j59 appL found28 (((Rs.nx (.int 3)).bind fun x61 => Rs.nx [x61]).bind lstD)).to fun found60 => (((Rs.nx (.int 1)).bind fun x62 => (idxD found60 x62).bind fun j63 => Rs.nx (some j63)).to fun j64 => (opD j64 appL found60 (((Rs.nx (.int 4)).bind fun x66 => Rs.nx [x66]).bind lstD)).to fun found65 => (Out.nx ())))))))) ds69 ()).bind fun (s67 : Unit) => ((Rs.nx (.bl true)).to Out.rt)))))))
def f_is_corner (a_rows a_at : D) : Out Unit Unit := (((((Rs.nx a_at).bind fun x4 => (Rs.nx (.int 0)).bind fun x5 => ofO (ltO x4 x5)).bind fun c6 => if c6 = true then Rs.nx true else ((Rs.nx a_at).bind fun x2 => ((Rs.nx a_rows).bind fun x1 => lenD [x1]).bind fun x3 => ofO (geO x2 x3))).to fun c => if c = true then ((Rs.nx (.bl false)).to Out.rt) else (Out.nx ())).bind fun (s7 : Unit) => ((((Rs.nx a_at).bind fun x21 => (((Rs.nx a_rows).bind fun x18 => lenD [x18]).bind fun x19 => (Rs.nx (.int 1)).bind fun x20 => intD (· - ·) x19 x20).bind fun x22 => ofB (eqO x21 x22)).bind fun x23 => orD x23 ((((Rs.nx a_rows).bind fun x10 => ((Rs.nx a_at).bind fun x8 => (Rs.nx (.int 1)).bind fun x9 => intD (· + ·) x8 x9).bind fun x11 => ixD x10 x11).bind fun x12 => lenD [x12]).bind fun x16 => (((Rs.nx a_rows).bind fun x13 => (Rs.nx a_at).bind fun x14 => ixD x13 x14).bind fun x15 => lenD [x15]).bind fun x17 => ofB (ltO x16 x17))).to Out.rt))
def f_take_out (a_rows a_at : D) : Out Unit Unit := ((((((Rs.nx a_rows).bind fun x1 => (Rs.nx a_at).bind fun x2 => callN (f_is_corner x1 x2)).bind asB).bind fun c3 => Rs.nx (!c3)).to fun c => if c = true then (Out.exc "NoPlace") else (Out.nx ())).bind fun (s4 : Unit) => (((Rs.nx a_rows).bind (compS yes fun d6 => ((Rs.nx d6).bind fun x7 => listD [x7]))).to fun made5 => ((lastInD made5 a_at).to fun number8 => ((((((Rs.nx (popInD made5 a_at)).bind fun x9 => (Rs.nx a_at).bind fun x10 => ixD x9 x10).bind fun x11 => lenD [x11]).bind fun x12 => (Rs.nx (.int 0)).bind fun x13 => ofO (eqO x12 x13)).to fun c => if c = true then ((lastD (popInD made5 a_at)).to fun x15 => (Out.nx (popD (popInD made5 a_at)))) else (Out.nx (popInD made5 a_at))).bind fun (s14 : D) => (((((Rs.nx a_at).bind fun x16 => (Rs.nx (.int 1)).bind fun x17 => intD (· - ·) x16 x17).bind fun x20 => ((Rs.nx (.int 1)).bind fun x18 => negD x18).bind fun x21 => ((Rs.nx (.int 1)).bind fun x19 => negD x19).bind fun x22 => Rs.nx [x20, x21, x22]).to fun a58 => (rngD3 a58).to fun ds59 => forL (fun (d23 : D) (s24 : D × D) => (((((Rs.nx s24.1).bind fun x26 => (Rs.nx d23).bind fun x27 => ixD x26 x27).bind fun x28 => lenD [x28]).bind fun x29 => (Rs.nx (.int 1)).bind fun x30 => intD (· - ·) x29 x30).to fun j25 => ((whileF (fun s31 : D => ((((Rs.nx s24.1).bind fun x34 => (Rs.nx d23).bind fun x35 => ixD x34 x35).bind fun x36 => (Rs.nx s31).bind fun x37 => ixD x36 x37).bind fun x38 => (Rs.nx s24.2).bind fun x39 => ofO (gtO x38 x39))) (fun s32 : D => (((Rs.nx s32).bind fun x41 => (Rs.nx (.int 1)).bind fun x42 => intD (· - ·) x41 x42).to fun j40 => (Out.nx j40))) 1000 j25).bind fun (s33 : D) => (((((Rs.nx s24.1).bind fun x44 => (Rs.nx d23).bind fun x45 => ixD x44 x45).bind fun x46 => (Rs.nx s33).bind fun x47 => ixD x46 x47).bind at?).to fun pushed43 => (((Rs.nx s24.2).bind at?).to fun x50 => ((Rs.nx d23).bind fun x48 => (idxD s24.1 x48).bind fun j49 => Rs.nx (some j49)).to fun j51 => (Rs.nx s33).to fun x52 => (edD j51 (setL x52 x50) s24.1).to fun made53 => (((Rs.nx pushed43).bind at?).to fun number54 => (Out.nx (made53, number54)))))))) ds59 (s14, number8)).bind fun (s55 : D × D) => ((((Rs.nx s55.1).bind fun x56 => (Rs.nx s55.2).bind fun x57 => (at? x57).bind fun x57 => Rs.nx (.tup [x56, x57])).bind (full? 3)).to Out.rt))))))
def f_law_tried (a_rows a_at : D) : Out Unit Unit := ((tryD ["NoPlace"] (((Rs.nx a_rows).bind fun x2 => (Rs.nx a_at).bind fun x3 => callX (f_take_out x2 x3)).to fun found1 => (Out.nx found1)) (fun n4 => (((((Rs.nx (.bl (decide (("NoPlace" : Str) = n4)))).bind fun x5 => andD x5 (Rs.nx (.bl true))).bind fun x6 => (Rs.nx .non).bind fun x7 => Rs.nx [x6, x7]).bind tupD).to Out.rt))).bind fun (s8 : D) => ((((Rs.nx .non).bind fun x9 => Rs.nx (.tup [x9, s8])).bind (full? 4)).to Out.rt))
def f_law_k05 (a_script : D) : Out Unit Unit := (((((Rs.nx a_script).bind fun x2 => (Rs.nx (.int 40)).bind fun x3 => callN (f_law_row_by x2 x3)).bind fun x4 => callN (f_law_laid x4)).bind (itemAt 0)).to fun rows1 => ((((Rs.nx a_script).bind fun x9 => (Rs.nx (.int 400)).bind fun x10 => (((Rs.nx rows1).bind fun x6 => lenD [x6]).bind fun x7 => (Rs.nx (.int 4)).bind fun x8 => intD (· + ·) x7 x8).bind fun x11 => callN (f_law_drawn x9 x10 x11)).bind fun x12 => (Rs.nx (.int 2)).bind fun x13 => intD (· - ·) x12 x13).to fun v_at5 => (((((Rs.nx a_script).bind fun x14 => (Rs.nx (.int 401)).bind fun x15 => (Rs.nx (.int 6)).bind fun x16 => callN (f_law_drawn x14 x15 x16)).bind fun x17 => (Rs.nx (.int 1)).bind fun x18 => ofO (eqO x17 x18)).to fun c => if c = true then (((((((Rs.nx (.int 10)).bind fun x21 => (Rs.nx (.int 9)).bind fun x22 => powD x21 x22).bind fun x26 => (((Rs.nx (.int 10)).bind fun x23 => (Rs.nx (.int 9)).bind fun x24 => powD x23 x24).bind fun x25 => negD x25).bind fun x27 => Rs.nx [x26, x27]).bind lstD).bind fun x31 => ((Rs.nx a_script).bind fun x28 => (Rs.nx (.int 402)).bind fun x29 => (Rs.nx (.int 2)).bind fun x30 => callN (f_law_drawn x28 x29 x30)).bind fun x32 => ixD x31 x32).bind fun x33 => (Rs.nx v_at5).bind fun x34 => intD (· + ·) x33 x34).to fun v_at20 => (Out.nx v_at20)) else (Out.nx v_at5)).bind fun (s19 : D) => (((Rs.nx rows1).bind (compS yes fun d36 => ((Rs.nx d36).bind fun x37 => listD [x37]))).to fun handed35 => (((Rs.nx handed35).bind fun x39 => (Rs.nx s19).bind fun x40 => callN (f_law_tried x39 x40)).to fun tried38 => ((((((Rs.nx handed35).bind fun x41 => (Rs.nx rows1).bind fun x42 => callN (f_law_rows x41 x42)).bind asB).bind fun c43 => Rs.nx (!c43)).to fun c => if c = true then ((Rs.nx (.bl false)).to Out.rt) else (Out.nx ())).bind fun (s44 : Unit) => ((((Rs.nx rows1).bind (compS yes fun d46 => ((Rs.nx d46).bind fun x47 => lenD [x47]))).bind fun x49 => (((Rs.nx (.int 0)).bind fun x48 => Rs.nx [x48]).bind lstD).bind fun x50 => catD x49 x50).to fun lengths45 => (((((Rs.nx s19).bind fun x63 => (Rs.nx (.int 0)).bind fun x64 => ofO (ltO x63 x64)).bind fun c65 => if c65 = true then Rs.nx true else (((Rs.nx s19).bind fun x60 => ((Rs.nx rows1).bind fun x59 => lenD [x59]).bind fun x61 => ofO (geO x60 x61)).bind fun c62 => if c62 = true then Rs.nx true else (((Rs.nx lengths45).bind fun x53 => ((Rs.nx s19).bind fun x51 => (Rs.nx (.int 1)).bind fun x52 => intD (· + ·) x51 x52).bind fun x54 => ixD x53 x54).bind fun x57 => ((Rs.nx lengths45).bind fun x55 => (Rs.nx s19).bind fun x56 => ixD x55 x56).bind fun x58 => ofO (eqO x57 x58)))).to fun c => if c = true then ((((Rs.nx tried38).bind fun x67 => (Rs.nx (.int 0)).bind fun x68 => ixD x67 x68).bind fun x69 => (Rs.nx (.bl true)).bind fun x70 => ofB (isB x69 x70)).to Out.rt) else (Out.nx ())).bind fun (s66 : Unit) => ((itemAt 1 tried38).to fun found71 => ((((((Rs.nx (holeAt 1 tried38)).bind fun x83 => (Rs.nx (.int 0)).bind fun x84 => ixD x83 x84).bind fun x85 => (Rs.nx .non).bind fun x86 => ofO (isntO x85 x86)).bind fun c87 => if c87 = true then Rs.nx true else (((((Rs.nx found71).bind fun x80 => ofB (isiO "tuple" x80)).bind asB).bind fun c81 => Rs.nx (!c81)).bind fun c82 => if c82 = true then Rs.nx true else ((((Rs.nx found71).bind fun x76 => lenD [x76]).bind fun x77 => (Rs.nx (.int 2)).bind fun x78 => ofO (neO x77 x78)).bind fun c79 => if c79 = true then Rs.nx true else (((((Rs.nx found71).bind fun x72 => (Rs.nx (.int 1)).bind fun x73 => ixD x72 x73).bind fun x74 => callN (f_law_whole x74)).bind asB).bind fun c75 => Rs.nx (!c75))))).to fun c => if c = true then ((Rs.nx (.bl false)).to Out.rt) else (Out.nx ())).bind fun (s88 : Unit) => (((((((Rs.nx found71).bind fun x89 => (Rs.nx (.int 0)).bind fun x90 => ixD x89 x90).bind fun x91 => ofB (isiO "list" x91)).bind asB).bind fun c92 => Rs.nx (!c92)).to fun c => if c = true then ((Rs.nx (.bl false)).to Out.rt) else (Out.nx ())).bind fun (s93 : Unit) => ((((Rs.nx found71).bind fun x94 => (Rs.nx (.int 0)).bind fun x95 => ixD x94 x95).to fun a98 => (seqD a98).to fun ds99 => forL (fun (d96 : D) (s97 : Unit) => (((((((Rs.nx d96).bind fun x110 => ofB (isiO "list" x110)).bind asB).bind fun c111 => Rs.nx (!c111)).bind fun c112 => if c112 = true then Rs.nx true else ((((Rs.nx d96).bind fun x106 => lenD [x106]).bind fun x107 => (Rs.nx (.int 0)).bind fun x108 => ofO (eqO x107 x108)).bind fun c109 => if c109 = true then Rs.nx true else ((((Rs.nx d96).bind fun x103 => (Rs.nx d96).bind fun x104 => callN (f_law_row x103 x104)).bind asB).bind fun c105 => Rs.nx (!c105)))).to fun c100 => if c100 = true then ((Rs.nx (.bl false)).to Out.rt) else (Out.nx ())).bind fun (s101 : Unit) => (Out.nx ()))) ds99 ()).bind fun (s102 : Unit) => ((((Rs.nx [] : Rs (List D))).bind lstD).to fun due113 => ((((Rs.nx found71).bind fun x114 => (Rs.nx (.int 0)).bind fun x115 => ixD x114 x115).to fun a118 => (seqD a118).to fun ds119 => forL (fun (d116 : D) (s117 : D) => (((Rs.nx d116).bind fun x122 => (Rs.nx s117).bind fun x123 => catD x122 x123).to fun due120 => (Out.nx due120))) ds119 due113).bind fun (s121 : D) => (((((((Rs.nx found71).bind fun x124 => (Rs.nx (.int 0)).bind fun x125 => ixD x124 x125).bind fun x129 => (((Rs.nx s121).bind fun x126 => callN (f_law_laid x126)).bind fun x127 => (Rs.nx (.int 0)).bind fun x128 => ixD x127 x128).bind fun x130 => callN (f_law_rows x129 x130)).bind asB).bind fun c131 => Rs.nx (!c131)).to fun c => if c = true then ((Rs.nx (.bl false)).to Out.rt) else (Out.nx ())).bind fun (s132 : Unit) => ((((Rs.nx found71).bind fun x134 => (Rs.nx (.int 0)).bind fun x135 => ixD x134 x135).bind fun x138 => ((Rs.nx found71).bind fun x136 => (Rs.nx (.int 1)).bind fun x137 => ixD x136 x137).bind fun x139 => callN (f_law_lay x138 x139)).to fun again133 => ((itemAt 0 found71).to fun d152 => (appAllD d152).to fun u153 => (((((Rs.nx again133).bind fun x147 => (Rs.nx (.int 1)).bind fun x148 => ixD x147 x148).bind fun x149 => (Rs.nx s19).bind fun x150 => ofB (eqO x149 x150)).bind fun x151 => andD x151 ((((Rs.nx again133).bind fun x142 => (Rs.nx (.int 0)).bind fun x143 => ixD x142 x143).bind fun x144 => (Rs.nx rows1).bind fun x145 => callN (f_law_rows x144 x145)).bind fun x146 => andD x146 ((Rs.nx handed35).bind fun x140 => (Rs.nx rows1).bind fun x141 => callN (f_law_rows x140 x141)))).to Out.rt))))))))))))))))))
def f_row_of (a_rows a_number : D) : Out Unit Unit := (((((Rs.nx a_rows).bind fun x1 => lenD [x1]).bind fun x2 => Rs.nx [x2]).to fun a12 => (rngD1 a12).to fun ds13 => forL (fun (d3 : D) (s4 : Unit) => ((((Rs.nx a_number).bind fun x7 => ((Rs.nx a_rows).bind fun x5 => (Rs.nx d3).bind fun x6 => ixD x5 x6).bind fun x8 => ofO (inO x7 x8)).to fun c => if c = true then ((Rs.nx d3).to Out.rt) else (Out.nx ())).bind fun (s9 : Unit) => (Out.nx ()))) ds13 ()).bind fun (s10 : Unit) => (((Rs.nx (.int 1)).bind fun x11 => negD x11).to Out.rt))
def f_taken (a_first a_second : D) : Out Unit Unit := (((((((Rs.nx a_first).bind fun x8 => callN (f_is_stairs x8)).bind asB).bind fun c9 => Rs.nx (!c9)).bind fun c10 => if c10 = true then Rs.nx true else (((((Rs.nx a_second).bind fun x5 => callN (f_is_stairs x5)).bind asB).bind fun c6 => Rs.nx (!c6)).bind fun c7 => if c7 = true then Rs.nx true else (((Rs.nx a_first).bind fun x1 => callN (f_shape x1)).bind fun x3 => ((Rs.nx a_second).bind fun x2 => callN (f_shape x2)).bind fun x4 => ofO (neO x3 x4)))).to fun c => if c = true then (Out.exc "NoPair") else (Out.nx ())).bind fun (s11 : Unit) => ((((Rs.nx a_first).bind fun x13 => callN (f_reading x13)).bind fun x14 => lenD [x14]).to fun many12 => ((((((Rs.nx a_second).bind fun x15 => callN (f_reading x15)).bind fun x16 => sortedD [x16]).bind fun x22 => (((Rs.nx many12).bind fun x18 => Rs.nx [x18]).bind fun a21 => (rng1 a21).bind (compRg yes fun d17 => ((Rs.nx d17).bind fun x19 => (Rs.nx (.int 1)).bind fun x20 => intD (· + ·) x19 x20))).bind fun x23 => ofO (neO x22 x23)).to fun c => if c = true then (Out.exc "NoPair") else (Out.nx ())).bind fun (s24 : Unit) => ((Rs.nx a_first).to fun rows25 => ((((Rs.nx [] : Rs (List D))).bind lstD).to fun found26 => ((((Rs.nx many12).bind fun x28 => (Rs.nx (.int 0)).bind fun x29 => ((Rs.nx (.int 1)).bind fun x27 => negD x27).bind fun x30 => Rs.nx [x28, x29, x30]).to fun a55 => (rngD3 a55).to fun ds56 => forL (fun (d31 : D) (s32 : D × D) => (((Rs.nx s32.1).bind fun x36 => ((Rs.nx a_second).bind fun x34 => (Rs.nx d31).bind fun x35 => callN (f_row_of x34 x35)).bind fun x37 => callX (f_take_out x36 x37)).to fun out33 => (((Rs.nx out33).bind fun x39 => (Rs.nx (.int 0)).bind fun x40 => ixD x39 x40).to fun rows38 => ((Rs.nx none).to fun j41 => (opD j41 appL s32.2 ((Rs.nx out33).bind fun x43 => (Rs.nx (.int 1)).bind fun x44 => ixD x43 x44)).to fun found42 => (Out.nx (rows38, found42)))))) ds56 (rows25, found26)).bind fun (s45 : D × D) => ((((Rs.nx many12).bind fun x47 => Rs.nx [x47]).bind fun a54 => (rng1 a54).bind (compRg yes fun d46 => (((Rs.nx s45.2).bind fun x52 => (((Rs.nx many12).bind fun x48 => (Rs.nx (.int 1)).bind fun x49 => intD (· - ·) x48 x49).bind fun x50 => (Rs.nx d46).bind fun x51 => intD (· - ·) x50 x51).bind fun x53 => ixD x52 x53).bind at?))).to Out.rt)))))))
def f_law_rises (a_rows : D) : Out Unit Unit := (((((Rs.nx a_rows).bind fun x1 => lenD [x1]).bind fun x2 => Rs.nx [x2]).to fun a68 => (rngD1 a68).to fun ds69 => forL (fun (d3 : D) (s4 : Unit) => (((Rs.nx a_rows).bind fun x6 => (Rs.nx d3).bind fun x7 => ixD x6 x7).to fun row5 => (((((((Rs.nx row5).bind fun x18 => ofB (isiO "list" x18)).bind asB).bind fun c19 => Rs.nx (!c19)).bind fun c20 => if c20 = true then Rs.nx true else ((((Rs.nx row5).bind fun x14 => lenD [x14]).bind fun x15 => (Rs.nx (.int 0)).bind fun x16 => ofO (eqO x15 x16)).bind fun c17 => if c17 = true then Rs.nx true else (((((Rs.nx row5).bind fun x10 => (Rs.nx row5).bind fun x11 => callN (f_law_row x10 x11)).bind asB).bind fun c12 => Rs.nx (!c12)).bind fun c13 => if c13 = true then Rs.nx true else ((Rs.nx .non).bind fun x8 => (Rs.nx row5).bind fun x9 => ofO (inO x8 x9))))).to fun c => if c = true then ((Rs.nx (.bl false)).to Out.rt) else (Out.nx ())).bind fun (s21 : Unit) => (((((Rs.nx d3).bind fun x30 => (Rs.nx (.int 0)).bind fun x31 => ofO (gtO x30 x31)).bind fun c32 => if c32 = true then ((((Rs.nx a_rows).bind fun x24 => ((Rs.nx d3).bind fun x22 => (Rs.nx (.int 1)).bind fun x23 => intD (· - ·) x22 x23).bind fun x25 => ixD x24 x25).bind fun x26 => lenD [x26]).bind fun x28 => ((Rs.nx row5).bind fun x27 => lenD [x27]).bind fun x29 => ofO (ltO x28 x29)) else Rs.nx false).to fun c => if c = true then ((Rs.nx (.bl false)).to Out.rt) else (Out.nx ())).bind fun (s33 : Unit) => (((((Rs.nx row5).bind fun x34 => lenD [x34]).bind fun x35 => Rs.nx [x35]).to fun a65 => (rngD1 a65).to fun ds66 => forL (fun (d36 : D) (s37 : Unit) => ((((((Rs.nx d36).bind fun x59 => (Rs.nx (.int 0)).bind fun x60 => ofO (gtO x59 x60)).bind fun c61 => if c61 = true then (((Rs.nx row5).bind fun x53 => ((Rs.nx d36).bind fun x51 => (Rs.nx (.int 1)).bind fun x52 => intD (· - ·) x51 x52).bind fun x54 => ixD x53 x54).bind fun x57 => ((Rs.nx row5).bind fun x55 => (Rs.nx d36).bind fun x56 => ixD x55 x56).bind fun x58 => ofO (geO x57 x58)) else Rs.nx false).bind fun c62 => if c62 = true then Rs.nx true else (((Rs.nx d3).bind fun x48 => (Rs.nx (.int 0)).bind fun x49 => ofO (gtO x48 x49)).bind fun c50 => if c50 = true then ((((Rs.nx a_rows).bind fun x40 => ((Rs.nx d3).bind fun x38 => (Rs.nx (.int 1)).bind fun x39 => intD (· - ·) x38 x39).bind fun x41 => ixD x40 x41).bind fun x42 => (Rs.nx d36).bind fun x43 => ixD x42 x43).bind fun x46 => ((Rs.nx row5).bind fun x44 => (Rs.nx d36).bind fun x45 => ixD x44 x45).bind fun x47 => ofO (geO x46 x47)) else Rs.nx false)).to fun c => if c = true then ((Rs.nx (.bl false)).to Out.rt) else (Out.nx ())).bind fun (s63 : Unit) => (Out.nx ()))) ds66 ()).bind fun (s64 : Unit) => (Out.nx ())))))) ds69 ()).bind fun (s67 : Unit) => ((Rs.nx (.bl true)).to Out.rt))
def f_law_k06 (a_script : D) : Out Unit Unit := (((Rs.nx a_script).bind fun x2 => (Rs.nx (.int 40)).bind fun x3 => callN (f_law_row_by x2 x3)).to fun row1 => ((((Rs.nx row1).bind fun x5 => listD [x5]).bind fun x6 => callN (f_laid x6)).to fun pair4 => (((((((Rs.nx pair4).bind fun x20 => ofB (isiO "tuple" x20)).bind asB).bind fun c21 => Rs.nx (!c21)).bind fun c22 => if c22 = true then Rs.nx true else ((((Rs.nx pair4).bind fun x16 => lenD [x16]).bind fun x17 => (Rs.nx (.int 2)).bind fun x18 => ofO (neO x17 x18)).bind fun c19 => if c19 = true then Rs.nx true else ((((((Rs.nx pair4).bind fun x11 => (Rs.nx (.int 0)).bind fun x12 => ixD x11 x12).bind fun x13 => ofB (isiO "list" x13)).bind asB).bind fun c14 => Rs.nx (!c14)).bind fun c15 => if c15 = true then Rs.nx true else (((((Rs.nx pair4).bind fun x7 => (Rs.nx (.int 1)).bind fun x8 => ixD x7 x8).bind fun x9 => ofB (isiO "list" x9)).bind asB).bind fun c10 => Rs.nx (!c10))))).to fun c => if c = true then ((Rs.nx (.bl false)).to Out.rt) else (Out.nx ())).bind fun (s23 : Unit) => ((((((((Rs.nx pair4).bind fun x28 => (Rs.nx (.int 0)).bind fun x29 => ixD x28 x29).bind fun x30 => callN (f_law_rises x30)).bind asB).bind fun c31 => Rs.nx (!c31)).bind fun c32 => if c32 = true then Rs.nx true else (((((Rs.nx pair4).bind fun x24 => (Rs.nx (.int 1)).bind fun x25 => ixD x24 x25).bind fun x26 => callN (f_law_rises x26)).bind asB).bind fun c27 => Rs.nx (!c27))).to fun c => if c = true then ((Rs.nx (.bl false)).to Out.rt) else (Out.nx ())).bind fun (s33 : Unit) => ((((((Rs.nx pair4).bind fun x35 => (Rs.nx (.int 0)).bind fun x36 => ixD x35 x36).bind (compS yes fun d34 => ((Rs.nx d34).bind fun x37 => lenD [x37]))).bind fun x42 => (((Rs.nx pair4).bind fun x39 => (Rs.nx (.int 1)).bind fun x40 => ixD x39 x40).bind (compS yes fun d38 => ((Rs.nx d38).bind fun x41 => lenD [x41]))).bind fun x43 => ofO (neO x42 x43)).to fun c => if c = true then ((Rs.nx (.bl false)).to Out.rt) else (Out.nx ())).bind fun (s44 : Unit) => ((((Rs.nx [] : Rs (List D))).bind lstD).to fun counts45 => ((((Rs.nx [] : Rs (List D))).bind lstD).to fun numbers46 => ((((((Rs.nx pair4).bind fun x47 => (Rs.nx (.int 0)).bind fun x48 => ixD x47 x48).bind fun x49 => lenD [x49]).bind fun x50 => Rs.nx [x50]).to fun a117 => (rngD1 a117).to fun ds118 => forL (fun (d51 : D) (s52 : D × D) => (((Rs.nx s52.2).bind fun x58 => (((Rs.nx pair4).bind fun x54 => (Rs.nx (.int 0)).bind fun x55 => ixD x54 x55).bind fun x56 => (Rs.nx d51).bind fun x57 => ixD x56 x57).bind fun x59 => catD x58 x59).to fun numbers53 => (((Rs.nx s52.1).bind fun x65 => (((Rs.nx pair4).bind fun x61 => (Rs.nx (.int 1)).bind fun x62 => ixD x61 x62).bind fun x63 => (Rs.nx d51).bind fun x64 => ixD x63 x64).bind fun x66 => catD x65 x66).to fun counts60 => (Out.nx (counts60, numbers53))))) ds118 (counts45, numbers46)).bind fun (s67 : D × D) => ((((((Rs.nx s67.1).bind fun x72 => sortedD [x72]).bind fun x79 => ((((Rs.nx row1).bind fun x74 => lenD [x74]).bind fun x75 => Rs.nx [x75]).bind fun a78 => (rng1 a78).bind (compRg yes fun d73 => ((Rs.nx d73).bind fun x76 => (Rs.nx (.int 1)).bind fun x77 => intD (· + ·) x76 x77))).bind fun x80 => ofO (neO x79 x80)).bind fun c81 => if c81 = true then Rs.nx true else (((Rs.nx s67.2).bind fun x68 => sortedD [x68]).bind fun x70 => ((Rs.nx row1).bind fun x69 => sortedD [x69]).bind fun x71 => ofO (neO x70 x71))).to fun c => if c = true then ((Rs.nx (.bl false)).to Out.rt) else (Out.nx ())).bind fun (s82 : Unit) => ((((((Rs.nx pair4).bind fun x85 => (Rs.nx (.int 0)).bind fun x86 => ixD x85 x86).bind (compS yes fun d84 => ((Rs.nx d84).bind fun x87 => listD [x87]))).bind fun x92 => (((Rs.nx pair4).bind fun x89 => (Rs.nx (.int 1)).bind fun x90 => ixD x89 x90).bind (compS yes fun d88 => ((Rs.nx d88).bind fun x91 => listD [x91]))).bind fun x93 => Rs.nx [x92, x93]).bind tupD).to fun handed83 => ((((Rs.nx handed83).bind fun x95 => (Rs.nx (.int 0)).bind fun x96 => ixD x95 x96).bind fun x99 => ((Rs.nx handed83).bind fun x97 => (Rs.nx (.int 1)).bind fun x98 => ixD x97 x98).bind fun x100 => callX (f_taken x99 x100)).to fun found94 => ((((Rs.nx found94).bind fun x114 => (Rs.nx row1).bind fun x115 => callN (f_law_row x114 x115)).bind fun x116 => andD x116 ((((Rs.nx handed83).bind fun x107 => (Rs.nx (.int 0)).bind fun x108 => ixD x107 x108).bind fun x111 => ((Rs.nx pair4).bind fun x109 => (Rs.nx (.int 0)).bind fun x110 => ixD x109 x110).bind fun x112 => callN (f_law_rows x111 x112)).bind fun x113 => andD x113 (((Rs.nx handed83).bind fun x101 => (Rs.nx (.int 1)).bind fun x102 => ixD x101 x102).bind fun x105 => ((Rs.nx pair4).bind fun x103 => (Rs.nx (.int 1)).bind fun x104 => ixD x103 x104).bind fun x106 => callN (f_law_rows x105 x106)))).to Out.rt))))))))))))
def f_law_filling_by (a_script a_lengths : D) : Out Unit Unit := (((Rs.nx a_lengths).bind fun x2 => listD [x2]).to fun left1 => (((Rs.nx a_lengths).bind (compS yes fun d4 => (((Rs.nx d4).bind fun x6 => Rs.nx [x6]).bind fun a7 => (rng1 a7).bind (compRg yes fun d5 => (Rs.nx (.int 0)))))).to fun made3 => (((((Rs.nx a_lengths).bind fun x8 => sumD [x8]).bind fun x10 => (Rs.nx (.int 0)).bind fun x11 => ((Rs.nx (.int 1)).bind fun x9 => negD x9).bind fun x12 => Rs.nx [x10, x11, x12]).to fun a65 => (rngD3 a65).to fun ds66 => forL (fun (d13 : D) (s14 : D × D) => (((((Rs.nx s14.1).bind fun x17 => lenD [x17]).bind fun x18 => Rs.nx [x18]).bind fun a38 => (rng1 a38).bind (compRg (fun d16 => ((((Rs.nx s14.1).bind fun x33 => (Rs.nx d16).bind fun x34 => ixD x33 x34).bind fun x35 => (Rs.nx (.int 0)).bind fun x36 => ofO (gtO x35 x36)).bind fun c37 => if c37 = true then ((((Rs.nx d16).bind fun x27 => (Rs.nx (.int 1)).bind fun x28 => intD (· + ·) x27 x28).bind fun x30 => ((Rs.nx s14.1).bind fun x29 => lenD [x29]).bind fun x31 => ofO (eqO x30 x31)).bind fun c32 => if c32 = true then Rs.nx true else (((Rs.nx s14.1).bind fun x21 => ((Rs.nx d16).bind fun x19 => (Rs.nx (.int 1)).bind fun x20 => intD (· + ·) x19 x20).bind fun x22 => ixD x21 x22).bind fun x25 => ((Rs.nx s14.1).bind fun x23 => (Rs.nx d16).bind fun x24 => ixD x23 x24).bind fun x26 => ofO (ltO x25 x26))) else Rs.nx false)) fun d16 => ((Rs.nx d16).bind at?))).to fun ends15 => ((((Rs.nx ends15).bind fun x46 => ((Rs.nx a_script).bind fun x43 => ((Rs.nx (.int 300)).bind fun x40 => (Rs.nx d13).bind fun x41 => intD (· + ·) x40 x41).bind fun x44 => ((Rs.nx ends15).bind fun x42 => lenD [x42]).bind fun x45 => callN (f_law_drawn x43 x44 x45)).bind fun x47 => ixD x46 x47).bind at?).to fun v_at39 => ((((Rs.nx s14.1).bind fun x48 => (Rs.nx v_at39).bind fun x49 => ixD x48 x49).bind fun x50 => (Rs.nx (.int 1)).bind fun x51 => intD (· - ·) x50 x51).to fun x52 => (Rs.nx none).to fun j53 => (Rs.nx v_at39).to fun x54 => (edD j53 (setL x54 x52) s14.1).to fun left55 => (((Rs.nx d13).bind at?).to fun x60 => ((Rs.nx v_at39).bind fun x56 => (idxD s14.2 x56).bind fun j57 => Rs.nx (some j57)).to fun j61 => ((Rs.nx left55).bind fun x58 => (Rs.nx v_at39).bind fun x59 => ixD x58 x59).to fun x62 => (edD j61 (setL x62 x60) s14.2).to fun made63 => (Out.nx (left55, made63))))))) ds66 (left1, made3)).bind fun (s64 : D × D) => (((Rs.nx s64.2).bind (full? 2)).to Out.rt))))
def f_law_k07 (a_script : D) : Out Unit Unit := (((((Rs.nx a_script).bind fun x2 => (Rs.nx (.int 40)).bind fun x3 => callN (f_law_row_by x2 x3)).bind fun x4 => callN (f_law_laid x4)).bind (itemAt 0)).to fun first1 => (((Rs.nx a_script).bind fun x8 => ((Rs.nx first1).bind (compS yes fun d6 => ((Rs.nx d6).bind fun x7 => lenD [x7]))).bind fun x9 => callN (f_law_filling_by x8 x9)).to fun second5 => (((((Rs.nx first1).bind (compS yes fun d11 => ((Rs.nx d11).bind fun x12 => listD [x12]))).bind fun x15 => ((Rs.nx second5).bind (compS yes fun d13 => ((Rs.nx d13).bind fun x14 => listD [x14]))).bind fun x16 => Rs.nx [x15, x16]).bind tupD).to fun handed10 => ((((Rs.nx handed10).bind fun x18 => (Rs.nx (.int 0)).bind fun x19 => ixD x18 x19).bind fun x22 => ((Rs.nx handed10).bind fun x20 => (Rs.nx (.int 1)).bind fun x21 => ixD x20 x21).bind fun x23 => callX (f_taken x22 x23)).to fun found17 => ((((((((Rs.nx handed10).bind fun x29 => (Rs.nx (.int 0)).bind fun x30 => ixD x29 x30).bind fun x31 => (Rs.nx first1).bind fun x32 => callN (f_law_rows x31 x32)).bind asB).bind fun c33 => Rs.nx (!c33)).bind fun c34 => if c34 = true then Rs.nx true else (((((Rs.nx handed10).bind fun x24 => (Rs.nx (.int 1)).bind fun x25 => ixD x24 x25).bind fun x26 => (Rs.nx second5).bind fun x27 => callN (f_law_rows x26 x27)).bind asB).bind fun c28 => Rs.nx (!c28))).to fun c => if c = true then ((Rs.nx (.bl false)).to Out.rt) else (Out.nx ())).bind fun (s35 : Unit) => ((((Rs.nx [] : Rs (List D))).bind lstD).to fun numbers36 => (((Rs.nx first1).to fun a74 => (seqD a74).to fun ds75 => forL (fun (d37 : D) (s38 : D) => (((Rs.nx s38).bind fun x40 => (Rs.nx d37).bind fun x41 => catD x40 x41).to fun numbers39 => (Out.nx numbers39))) ds75 numbers36).bind fun (s42 : D) => (((((((Rs.nx found17).bind fun x54 => ofB (isiO "list" x54)).bind asB).bind fun c55 => Rs.nx (!c55)).bind fun c56 => if c56 = true then Rs.nx true else ((((Rs.nx found17).bind fun x49 => lenD [x49]).bind fun x51 => ((Rs.nx s42).bind fun x50 => lenD [x50]).bind fun x52 => ofO (neO x51 x52)).bind fun c53 => if c53 = true then Rs.nx true else (((((Rs.nx found17).bind fun x45 => (Rs.nx found17).bind fun x46 => callN (f_law_row x45 x46)).bind asB).bind fun c47 => Rs.nx (!c47)).bind fun c48 => if c48 = true then Rs.nx true else ((Rs.nx .non).bind fun x43 => (Rs.nx found17).bind fun x44 => ofO (inO x43 x44))))).to fun c => if c = true then ((Rs.nx (.bl false)).to Out.rt) else (Out.nx ())).bind fun (s57 : Unit) => (((((Rs.nx found17).bind fun x58 => sortedD [x58]).bind fun x60 => ((Rs.nx s42).bind fun x59 => sortedD [x59]).bind fun x61 => ofO (neO x60 x61)).to fun c => if c = true then ((Rs.nx (.bl false)).to Out.rt) else (Out.nx ())).bind fun (s62 : Unit) => (((Rs.nx found17).bind fun x64 => callN (f_law_laid x64)).to fun again63 => (((((Rs.nx again63).bind fun x69 => (Rs.nx (.int 0)).bind fun x70 => ixD x69 x70).bind fun x71 => (Rs.nx first1).bind fun x72 => callN (f_law_rows x71 x72)).bind fun x73 => andD x73 (((Rs.nx again63).bind fun x65 => (Rs.nx (.int 1)).bind fun x66 => ixD x65 x66).bind fun x67 => (Rs.nx second5).bind fun x68 => callN (f_law_rows x67 x68))).to Out.rt)))))))))))
def f_law_stairs_k08 (a_rows : D) : Out Unit Unit := ((((Rs.nx [] : Rs (List D))).bind lstD).to fun numbers1 => (((((Rs.nx a_rows).bind fun x2 => lenD [x2]).bind fun x3 => Rs.nx [x3]).to fun a66 => (rngD1 a66).to fun ds67 => forL (fun (d4 : D) (s5 : D) => (((Rs.nx a_rows).bind fun x7 => (Rs.nx d4).bind fun x8 => ixD x7 x8).to fun row6 => ((((((Rs.nx row6).bind fun x20 => lenD [x20]).bind fun x21 => (Rs.nx (.int 0)).bind fun x22 => ofO (eqO x21 x22)).bind fun c23 => if c23 = true then Rs.nx true else (((Rs.nx d4).bind fun x17 => (Rs.nx (.int 0)).bind fun x18 => ofO (gtO x17 x18)).bind fun c19 => if c19 = true then ((((Rs.nx a_rows).bind fun x11 => ((Rs.nx d4).bind fun x9 => (Rs.nx (.int 1)).bind fun x10 => intD (· - ·) x9 x10).bind fun x12 => ixD x11 x12).bind fun x13 => lenD [x13]).bind fun x15 => ((Rs.nx row6).bind fun x14 => lenD [x14]).bind fun x16 => ofO (ltO x15 x16)) else Rs.nx false)).to fun c => if c = true then ((Rs.nx (.bl false)).to Out.rt) else (Out.nx ())).bind fun (s24 : Unit) => (((((Rs.nx row6).bind fun x25 => lenD [x25]).bind fun x26 => Rs.nx [x26]).to fun a59 => (rngD1 a59).to fun ds60 => forL (fun (d27 : D) (s28 : Unit) => ((((((Rs.nx d27).bind fun x50 => (Rs.nx (.int 0)).bind fun x51 => ofO (gtO x50 x51)).bind fun c52 => if c52 = true then (((Rs.nx row6).bind fun x44 => ((Rs.nx d27).bind fun x42 => (Rs.nx (.int 1)).bind fun x43 => intD (· - ·) x42 x43).bind fun x45 => ixD x44 x45).bind fun x48 => ((Rs.nx row6).bind fun x46 => (Rs.nx d27).bind fun x47 => ixD x46 x47).bind fun x49 => ofO (geO x48 x49)) else Rs.nx false).bind fun c53 => if c53 = true then Rs.nx true else (((Rs.nx d4).bind fun x39 => (Rs.nx (.int 0)).bind fun x40 => ofO (gtO x39 x40)).bind fun c41 => if c41 = true then ((((Rs.nx a_rows).bind fun x31 => ((Rs.nx d4).bind fun x29 => (Rs.nx (.int 1)).bind fun x30 => intD (· - ·) x29 x30).bind fun x32 => ixD x31 x32).bind fun x33 => (Rs.nx d27).bind fun x34 => ixD x33 x34).bind fun x37 => ((Rs.nx row6).bind fun x35 => (Rs.nx d27).bind fun x36 => ixD x35 x36).bind fun x38 => ofO (geO x37 x38)) else Rs.nx false)).to fun c => if c = true then ((Rs.nx (.bl false)).to Out.rt) else (Out.nx ())).bind fun (s54 : Unit) => (Out.nx ()))) ds60 ()).bind fun (s55 : Unit) => (((Rs.nx s5).bind fun x57 => (Rs.nx row6).bind fun x58 => catD x57 x58).to fun numbers56 => (Out.nx numbers56)))))) ds67 numbers1).bind fun (s61 : D) => ((((Rs.nx s61).bind fun x62 => setD x62).bind fun x64 => ((Rs.nx s61).bind fun x63 => lenD [x63]).bind fun x65 => ofB (eqO x64 x65)).to Out.rt)))
def f_law_good_k08 (a_first a_second : D) : Out Unit Unit := (((((((Rs.nx a_first).bind fun x3 => callN (f_law_stairs_k08 x3)).bind asB).bind fun c4 => Rs.nx (!c4)).bind fun c5 => if c5 = true then Rs.nx true else ((((Rs.nx a_second).bind fun x1 => callN (f_law_stairs_k08 x1)).bind asB).bind fun c2 => Rs.nx (!c2))).to fun c => if c = true then ((Rs.nx (.bl false)).to Out.rt) else (Out.nx ())).bind fun (s6 : Unit) => (((((Rs.nx a_first).bind (compS yes fun d7 => ((Rs.nx d7).bind fun x8 => lenD [x8]))).bind fun x11 => ((Rs.nx a_second).bind (compS yes fun d9 => ((Rs.nx d9).bind fun x10 => lenD [x10]))).bind fun x12 => ofO (neO x11 x12)).to fun c => if c = true then ((Rs.nx (.bl false)).to Out.rt) else (Out.nx ())).bind fun (s13 : Unit) => ((((Rs.nx [] : Rs (List D))).bind lstD).to fun numbers14 => (((Rs.nx a_second).to fun a30 => (seqD a30).to fun ds31 => forL (fun (d15 : D) (s16 : D) => (((Rs.nx s16).bind fun x18 => (Rs.nx d15).bind fun x19 => catD x18 x19).to fun numbers17 => (Out.nx numbers17))) ds31 numbers14).bind fun (s20 : D) => ((((Rs.nx s20).bind fun x21 => sortedD [x21]).bind fun x28 => ((((Rs.nx s20).bind fun x23 => lenD [x23]).bind fun x24 => Rs.nx [x24]).bind fun a27 => (rng1 a27).bind (compRg yes fun d22 => ((Rs.nx d22).bind fun x25 => (Rs.nx (.int 1)).bind fun x26 => intD (· + ·) x25 x26))).bind fun x29 => ofB (eqO x28 x29)).to Out.rt)))))
def f_law_spoilt_k08 (a_script a_rows a_way : D) : Out Unit D := ((((Rs.nx a_script).bind fun x3 => (Rs.nx (.int 400)).bind fun x4 => ((Rs.nx (unpin a_rows)).bind fun x2 => lenD [x2]).bind fun x5 => callN (f_law_drawn x3 x4 x5)).bind at?).to fun v_at1 => ((((Rs.nx a_script).bind fun x8 => (Rs.nx (.int 401)).bind fun x9 => ((Rs.nx (unpin a_rows)).bind fun x7 => lenD [x7]).bind fun x10 => callN (f_law_drawn x8 x9 x10)).bind at?).to fun other6 => ((((Rs.nx a_way).bind fun x11 => (Rs.nx (.int 0)).bind fun x12 => ofO (eqO x11 x12)).to fun c => if c = true then ((((Rs.nx a_script).bind fun x18 => (Rs.nx (.int 402)).bind fun x19 => (((Rs.nx (unpin a_rows)).bind fun x15 => (Rs.nx v_at1).bind fun x16 => ixD x15 x16).bind fun x17 => lenD [x17]).bind fun x20 => callN (f_law_drawn x18 x19 x20)).bind at?).to fun j14 => ((((((Rs.nx (unpin a_rows)).bind fun x21 => (Rs.nx v_at1).bind fun x22 => ixD x21 x22).bind fun x23 => (Rs.nx j14).bind fun x24 => ixD x23 x24).bind fun x28 => ((Rs.nx a_script).bind fun x25 => (Rs.nx (.int 403)).bind fun x26 => (Rs.nx (.int 7)).bind fun x27 => callN (f_law_drawn x25 x26 x27)).bind fun x29 => intD (· + ·) x28 x29).bind fun x30 => (Rs.nx (.int 3)).bind fun x31 => intD (· - ·) x30 x31).to fun x34 => ((Rs.nx v_at1).bind fun x32 => (idxD a_rows x32).bind fun j33 => Rs.nx (some j33)).to fun j35 => (Rs.nx j14).to fun x36 => (edD j35 (setL x36 x34) a_rows).to fun rows37 => (Out.nx rows37))) else (Out.nx a_rows)).bind fun (s13 : D) => ((((Rs.nx a_way).bind fun x38 => (Rs.nx (.int 1)).bind fun x39 => ofO (eqO x38 x39)).to fun c => if c = true then ((insP s13 (popAtD s13 v_at1) (Rs.nx other6) (itemOf s13 v_at1)).to fun rows42 => (Out.nx rows42)) else (Out.nx s13)).bind fun (s40 : D) => ((((Rs.nx a_way).bind fun x43 => (Rs.nx (.int 2)).bind fun x44 => ofO (eqO x43 x44)).to fun c => if c = true then ((Rs.nx none).to fun j46 => (insD j46 s40 (Rs.nx v_at1) (((Rs.nx [] : Rs (List D))).bind lstD)).to fun rows47 => (Out.nx rows47)) else (Out.nx s40)).bind fun (s45 : D) => ((((Rs.nx a_way).bind fun x48 => (Rs.nx (.int 3)).bind fun x49 => ofO (eqO x48 x49)).to fun c => if c = true then ((lastInD s45 v_at1).to fun x51 => (Out.nx (popInD s45 v_at1))) else (Out.nx s45)).bind fun (s50 : D) => (Out.nx s50)))))))
def f_law_marks_k08 (a_first a_second : D) : Out Unit Unit := ((tryD ["NoStairs", "NoPair", "NoPlace", "NoShape", "NoNote"] (((Rs.nx a_first).bind fun x1 => (Rs.nx a_second).bind fun x2 => callX (f_taken x1 x2)).to fun x3 => (Out.nx ())) (fun n4 => ((((Rs.nx (.bl (decide (("NoPair" : Str) = n4)))).bind fun x16 => ((Rs.nx (.bl true)).bind fun x14 => ((Rs.nx (.bl (decide (("NoStairs" : Str) = n4)))).bind fun x12 => ((Rs.nx (.bl (decide (("NoPlace" : Str) = n4)))).bind fun x10 => ((Rs.nx [] : Rs (List D))).bind fun x11 => Rs.nx (x10 :: x11)).bind fun x13 => Rs.nx (x12 :: x13)).bind fun x15 => Rs.nx (x14 :: x15)).bind fun x17 => Rs.nx (x16 :: x17)).bind lstD).to fun found5 => (((Rs.nx found5).bind fun x20 => (((Rs.nx (.bl (decide (("NoShape" : Str) = n4)))).bind fun x18 => (Rs.nx (.bl (decide (("NoNote" : Str) = n4)))).bind fun x19 => Rs.nx [x18, x19]).bind lstD).bind fun x21 => catD x20 x21).to Out.rt)))).bind fun (s22 : Unit) => ((((Rs.nx [] : Rs (List D))).bind lstD).to Out.rt))
noncomputable def f_law_k08 (a_script : D) : Out Unit Unit := (((Rs.nx a_script).bind fun x2 => (Rs.nx (.int 9)).bind fun x3 => callN (f_law_row_by x2 x3)).to fun row1 => (((((Rs.nx row1).bind fun x4 => lenD [x4]).bind fun x5 => (Rs.nx (.int 0)).bind fun x6 => ofO (eqO x5 x6)).to fun c => if c = true then ((((((Rs.nx a_script).bind fun x9 => (Rs.nx (.int 404)).bind fun x10 => (Rs.nx (.int 9)).bind fun x11 => callN (f_law_drawn x9 x10 x11)).bind at?).bind fun x12 => Rs.nx [x12]).bind lstD).to fun row8 => (Out.nx row8)) else (Out.nx row1)).bind fun (s7 : D) => ((((Rs.nx s7).bind fun x14 => callN (f_law_laid x14)).bind (itemAt 0)).to fun first13 => (((Rs.nx a_script).bind fun x18 => ((Rs.nx first13).bind (compS yes fun d16 => ((Rs.nx d16).bind fun x17 => lenD [x17]))).bind fun x19 => callN (f_law_filling_by x18 x19)).to fun second15 => ((((Rs.nx a_script).bind fun x21 => (Rs.nx (.int 405)).bind fun x22 => (Rs.nx (.int 9)).bind fun x23 => callN (f_law_drawn x21 x22 x23)).bind at?).to fun way20 => ((((Rs.nx way20).bind fun x24 => (Rs.nx (.int 8)).bind fun x25 => ofO (eqO x24 x25)).to fun c => if c = true then ((((((Rs.nx first13).bind fun x29 => (Rs.nx (.int 0)).bind fun x30 => ixD x29 x30).bind fun x31 => lenD [x31]).bind fun x32 => Rs.nx [x32]).bind fun a38 => (rng1 a38).bind (compRg yes fun d28 => (((Rs.nx first13).bind (filtD fun d33 => (((Rs.nx d33).bind fun x34 => lenD [x34]).bind fun x35 => (Rs.nx d28).bind fun x36 => ofO (gtO x35 x36)))).bind fun x37 => lenD [x37]))).to fun columns27 => (((Rs.nx a_script).bind fun x40 => (Rs.nx columns27).bind fun x41 => callN (f_law_filling_by x40 x41)).to fun second39 => (Out.nx second39))) else (Out.nx second15)).bind fun (s26 : D) => ((((Rs.nx way20).bind fun x42 => (Rs.nx (.int 4)).bind fun x43 => ofO (ltO x42 x43)).to fun c => if c = true then ((((Rs.nx way20).bind at?).bind fun x46 => callIO 1 (fun x47 => f_law_spoilt_k08 a_script x47 x46) s26).to fun second45 => (Out.nx (first13, second45))) else ((((Rs.nx way20).bind fun x48 => (Rs.nx (.int 7)).bind fun x49 => ofO (ltO x48 x49)).to fun c => if c = true then (((((Rs.nx way20).bind fun x52 => (Rs.nx (.int 4)).bind fun x53 => intD (· - ·) x52 x53).bind at?).bind fun x54 => callIO 1 (fun x55 => f_law_spoilt_k08 a_script x55 x54) first13).to fun first51 => (Out.nx first51)) else (Out.nx first13)).bind fun (s50 : D) => (Out.nx (s50, s26)))).bind fun (s44 : D × D) => (((((Rs.nx s44.1).bind (compS yes fun d57 => ((Rs.nx d57).bind fun x58 => listD [x58]))).bind fun x61 => ((Rs.nx s44.2).bind (compS yes fun d59 => ((Rs.nx d59).bind fun x60 => listD [x60]))).bind fun x62 => Rs.nx [x61, x62]).bind tupD).to fun handed56 => ((((Rs.nx [] : Rs (List D))).bind lstD).to fun due63 => ((((((Rs.nx s44.1).bind fun x64 => (Rs.nx s44.2).bind fun x65 => callN (f_law_good_k08 x64 x65)).bind asB).bind fun c66 => Rs.nx (!c66)).to fun c => if c = true then ((((Rs.nx (.bl true)).bind fun x85 => ((Rs.nx (.bl true)).bind fun x83 => ((Rs.nx (.bl false)).bind fun x81 => ((Rs.nx (.bl false)).bind fun x79 => ((Rs.nx (.bl false)).bind fun x77 => ((Rs.nx (.bl false)).bind fun x75 => ((Rs.nx [] : Rs (List D))).bind fun x76 => Rs.nx (x75 :: x76)).bind fun x78 => Rs.nx (x77 :: x78)).bind fun x80 => Rs.nx (x79 :: x80)).bind fun x82 => Rs.nx (x81 :: x82)).bind fun x84 => Rs.nx (x83 :: x84)).bind fun x86 => Rs.nx (x85 :: x86)).bind lstD).to fun due68 => (Out.nx due68)) else (Out.nx due63)).bind fun (s67 : D) => ((((((Rs.nx handed56).bind fun x91 => (Rs.nx (.int 0)).bind fun x92 => ixD x91 x92).bind fun x95 => ((Rs.nx handed56).bind fun x93 => (Rs.nx (.int 1)).bind fun x94 => ixD x93 x94).bind fun x96 => callN (f_law_marks_k08 x95 x96)).bind fun x97 => (Rs.nx s67).bind fun x98 => ofB (eqO x97 x98)).bind fun x99 => andD x99 ((Rs.nx handed56).bind fun x89 => (((Rs.nx s44.1).bind fun x87 => (Rs.nx s44.2).bind fun x88 => Rs.nx [x87, x88]).bind tupD).bind fun x90 => ofB (eqO x89 x90))).to Out.rt)))))))))))
def f_law_counted_by (a_script a_bound : D) : Out Unit Unit := ((((Rs.nx a_script).bind fun x6 => (Rs.nx (.int 0)).bind fun x7 => ((Rs.nx (.int 9)).bind fun x4 => ((Rs.nx a_bound).bind fun x2 => (Rs.nx (.int 1)).bind fun x3 => intD (· + ·) x2 x3).bind fun x5 => minD [x4, x5]).bind fun x8 => callN (f_law_drawn x6 x7 x8)).bind at?).to fun many1 => (((((Rs.nx a_script).bind fun x9 => (Rs.nx (.int 1)).bind fun x10 => (Rs.nx (.int 4)).bind fun x11 => callN (f_law_drawn x9 x10 x11)).bind fun x12 => (Rs.nx (.int 1)).bind fun x13 => ofO (eqO x12 x13)).to fun c => if c = true then ((((Rs.nx a_script).bind fun x18 => (Rs.nx (.int 2)).bind fun x19 => ((Rs.nx a_bound).bind fun x16 => (Rs.nx (.int 1)).bind fun x17 => intD (· + ·) x16 x17).bind fun x20 => callN (f_law_drawn x18 x19 x20)).bind at?).to fun many15 => (Out.nx many15)) else (Out.nx many1)).bind fun (s14 : D) => ((((Rs.nx [] : Rs (List D))).bind lstD).to fun order21 => ((((Rs.nx s14).bind fun x22 => Rs.nx [x22]).to fun a39 => (rngD1 a39).to fun ds40 => forL (fun (d23 : D) (s24 : D) => ((Rs.nx none).to fun j25 => (insD j25 s24 ((Rs.nx a_script).bind fun x33 => ((Rs.nx (.int 10)).bind fun x29 => ((Rs.nx (.int 2)).bind fun x27 => (Rs.nx d23).bind fun x28 => mulD x27 x28).bind fun x30 => intD (· + ·) x29 x30).bind fun x34 => ((Rs.nx d23).bind fun x31 => (Rs.nx (.int 1)).bind fun x32 => intD (· + ·) x31 x32).bind fun x35 => callN (f_law_drawn x33 x34 x35)) ((Rs.nx d23).bind fun x36 => (Rs.nx (.int 1)).bind fun x37 => intD (· + ·) x36 x37)).to fun order26 => (Out.nx order26))) ds40 order21).bind fun (s38 : D) => (((Rs.nx s38).bind (full? 1)).to Out.rt)))))
def f_law_k09 (a_script : D) : Out Unit Unit := (((Rs.nx a_script).bind fun x2 => (Rs.nx (.int 40)).bind fun x3 => callN (f_law_counted_by x2 x3)).to fun row1 => (((((Rs.nx row1).bind fun x6 => lenD [x6]).bind fun x7 => Rs.nx [x7]).bind fun a14 => (rng1 a14).bind (compRg yes fun d5 => (((Rs.nx row1).bind fun x10 => indexD x10 ((Rs.nx d5).bind fun x8 => (Rs.nx (.int 1)).bind fun x9 => intD (· + ·) x8 x9)).bind fun x12 => (Rs.nx (.int 1)).bind fun x13 => intD (· + ·) x12 x13))).to fun places4 => ((((Rs.nx row1).bind fun x16 => listD [x16]).bind fun x17 => callN (f_laid x17)).to fun one15 => ((((Rs.nx places4).bind fun x19 => listD [x19]).bind fun x20 => callN (f_laid x20)).to fun other18 => (((((((Rs.nx one15).bind fun x31 => ofB (isiO "tuple" x31)).bind asB).bind fun c32 => Rs.nx (!c32)).bind fun c33 => if c33 = true then Rs.nx true else (((((Rs.nx other18).bind fun x28 => ofB (isiO "tuple" x28)).bind asB).bind fun c29 => Rs.nx (!c29)).bind fun c30 => if c30 = true then Rs.nx true else ((((Rs.nx one15).bind fun x24 => lenD [x24]).bind fun x25 => (Rs.nx (.int 2)).bind fun x26 => ofO (neO x25 x26)).bind fun c27 => if c27 = true then Rs.nx true else (((Rs.nx other18).bind fun x21 => lenD [x21]).bind fun x22 => (Rs.nx (.int 2)).bind fun x23 => ofO (neO x22 x23))))).to fun c => if c = true then ((Rs.nx (.bl false)).to Out.rt) else (Out.nx ())).bind fun (s34 : Unit) => ((((((((Rs.nx other18).bind fun x39 => (Rs.nx (.int 0)).bind fun x40 => ixD x39 x40).bind fun x41 => ofB (isiO "list" x41)).bind asB).bind fun c42 => Rs.nx (!c42)).bind fun c43 => if c43 = true then Rs.nx true else (((((Rs.nx other18).bind fun x35 => (Rs.nx (.int 1)).bind fun x36 => ixD x35 x36).bind fun x37 => ofB (isiO "list" x37)).bind asB).bind fun c38 => Rs.nx (!c38))).to fun c => if c = true then ((Rs.nx (.bl false)).to Out.rt) else (Out.nx ())).bind fun (s44 : Unit) => (((((Rs.nx other18).bind fun x45 => (Rs.nx (.int 0)).bind fun x46 => ixD x45 x46).bind fun x49 => ((Rs.nx other18).bind fun x47 => (Rs.nx (.int 1)).bind fun x48 => ixD x47 x48).bind fun x50 => addD x49 x50).to fun a73 => (seqD a73).to fun ds74 => forL (fun (d51 : D) (s52 : Unit) => (((((((Rs.nx d51).bind fun x55 => ofB (isiO "list" x55)).bind asB).bind fun c56 => Rs.nx (!c56)).bind fun c57 => if c57 = true then Rs.nx true else ((Rs.nx .non).bind fun x53 => (Rs.nx d51).bind fun x54 => ofO (inO x53 x54))).to fun c => if c = true then ((Rs.nx (.bl false)).to Out.rt) else (Out.nx ())).bind fun (s58 : Unit) => (Out.nx ()))) ds74 ()).bind fun (s59 : Unit) => (((((Rs.nx one15).bind fun x66 => (Rs.nx (.int 0)).bind fun x67 => ixD x66 x67).bind fun x70 => ((Rs.nx other18).bind fun x68 => (Rs.nx (.int 1)).bind fun x69 => ixD x68 x69).bind fun x71 => callN (f_law_rows x70 x71)).bind fun x72 => andD x72 (((Rs.nx one15).bind fun x60 => (Rs.nx (.int 1)).bind fun x61 => ixD x60 x61).bind fun x64 => ((Rs.nx other18).bind fun x62 => (Rs.nx (.int 0)).bind fun x63 => ixD x62 x63).bind fun x65 => callN (f_law_rows x64 x65))).to Out.rt))))))))
def f_law_k10 (a_script : D) : Out Unit Unit := (((Rs.nx a_script).bind fun x2 => (Rs.nx (.int 40)).bind fun x3 => callN (f_law_row_by x2 x3)).to fun row1 => ((((Rs.nx row1).bind fun x5 => listD [x5]).bind fun x6 => callN (f_laid x6)).to fun one4 => ((((Rs.nx row1).bind revD).bind fun x8 => callN (f_laid x8)).to fun other7 => (((((((Rs.nx one4).bind fun x16 => ofB (isiO "tuple" x16)).bind asB).bind fun c17 => Rs.nx (!c17)).bind fun c18 => if c18 = true then Rs.nx true else (((((Rs.nx other7).bind fun x13 => ofB (isiO "tuple" x13)).bind asB).bind fun c14 => Rs.nx (!c14)).bind fun c15 => if c15 = true then Rs.nx true else (((((Rs.nx one4).bind fun x9 => (Rs.nx (.int 0)).bind fun x10 => ixD x9 x10).bind fun x11 => ofB (isiO "list" x11)).bind asB).bind fun c12 => Rs.nx (!c12)))).to fun c => if c = true then ((Rs.nx (.bl false)).to Out.rt) else (Out.nx ())).bind fun (s19 : Unit) => ((((Rs.nx [] : Rs (List D))).bind lstD).to fun columns20 => ((((Rs.nx one4).bind fun x21 => (Rs.nx (.int 0)).bind fun x22 => ixD x21 x22).to fun a59 => (seqD a59).to fun ds60 => forL (fun (d23 : D) (s24 : D) => (((((((Rs.nx d23).bind fun x27 => ofB (isiO "list" x27)).bind asB).bind fun c28 => Rs.nx (!c28)).bind fun c29 => if c29 = true then Rs.nx true else ((Rs.nx .non).bind fun x25 => (Rs.nx d23).bind fun x26 => ofO (inO x25 x26))).to fun c => if c = true then ((Rs.nx (.bl false)).to Out.rt) else (Out.nx ())).bind fun (s30 : Unit) => (((((Rs.nx d23).bind fun x31 => lenD [x31]).bind fun x32 => Rs.nx [x32]).to fun a52 => (rngD1 a52).to fun ds53 => forL (fun (d33 : D) (s34 : D) => ((((Rs.nx d33).bind fun x36 => ((Rs.nx s34).bind fun x35 => lenD [x35]).bind fun x37 => ofO (eqO x36 x37)).to fun c => if c = true then ((Rs.nx none).to fun j39 => (opD j39 appL s34 (((Rs.nx [] : Rs (List D))).bind lstD)).to fun columns40 => (Out.nx columns40)) else (Out.nx s34)).bind fun (s38 : D) => ((((Rs.nx d33).bind fun x42 => ((Rs.nx s38).bind fun x41 => lenD [x41]).bind fun x43 => ofO (gtO x42 x43)).to fun c => if c = true then ((Rs.nx (.bl false)).to Out.rt) else (Out.nx ())).bind fun (s44 : Unit) => (((Rs.nx d33).bind fun x45 => (idxD s38 x45).bind fun j46 => Rs.nx (some j46)).to fun j47 => (opD j47 appL s38 (((Rs.nx d23).bind fun x49 => (Rs.nx d33).bind fun x50 => ixD x49 x50).bind at?)).to fun columns48 => (Out.nx columns48))))) ds53 s24).bind fun (s51 : D) => (Out.nx s51)))) ds60 columns20).bind fun (s54 : D) => ((((Rs.nx other7).bind fun x55 => (Rs.nx (.int 0)).bind fun x56 => ixD x55 x56).bind fun x57 => (Rs.nx s54).bind fun x58 => callN (f_law_rows x57 x58)).to Out.rt)))))))
def f_law_k11 (a_script : D) : Out Unit Unit := (((((Rs.nx a_script).bind fun x2 => (Rs.nx (.int 40)).bind fun x3 => callN (f_law_row_by x2 x3)).bind fun x4 => callN (f_law_laid x4)).bind (itemAt 0)).to fun rows1 => (((((Rs.nx rows1).bind (compS yes fun d6 => ((Rs.nx d6).bind fun x7 => listD [x7]))).bind fun x8 => callN (f_reading x8)).bind fun x9 => callN (f_laid x9)).to fun found5 => (((((((Rs.nx found5).bind fun x19 => ofB (isiO "tuple" x19)).bind asB).bind fun c20 => Rs.nx (!c20)).bind fun c21 => if c21 = true then Rs.nx true else ((((Rs.nx found5).bind fun x15 => lenD [x15]).bind fun x16 => (Rs.nx (.int 2)).bind fun x17 => ofO (neO x16 x17)).bind fun c18 => if c18 = true then Rs.nx true else (((((Rs.nx found5).bind fun x10 => (Rs.nx (.int 0)).bind fun x11 => ixD x10 x11).bind fun x12 => (Rs.nx rows1).bind fun x13 => callN (f_law_rows x12 x13)).bind asB).bind fun c14 => Rs.nx (!c14)))).to fun c => if c = true then ((Rs.nx (.bl false)).to Out.rt) else (Out.nx ())).bind fun (s22 : Unit) => ((((((Rs.nx a_script).bind fun x24 => (Rs.nx (.int 40)).bind fun x25 => callN (f_law_row_by x24 x25)).bind revD).bind fun x26 => callN (f_law_laid x26)).bind (itemAt 0)).to fun due23 => ((((((Rs.nx rows1).bind (compS yes fun d28 => ((Rs.nx d28).bind fun x29 => listD [x29]))).bind fun x30 => callN (f_turned x30)).bind fun x31 => callN (f_reading x31)).bind fun x32 => callN (f_laid x32)).to fun found27 => ((((Rs.nx found27).bind fun x41 => ofB (isiO "tuple" x41)).bind fun x42 => andD x42 ((((Rs.nx found27).bind fun x37 => lenD [x37]).bind fun x38 => (Rs.nx (.int 2)).bind fun x39 => ofB (eqO x38 x39)).bind fun x40 => andD x40 (((Rs.nx found27).bind fun x33 => (Rs.nx (.int 0)).bind fun x34 => ixD x33 x34).bind fun x35 => (Rs.nx due23).bind fun x36 => callN (f_law_rows x35 x36)))).to Out.rt))))))
def f_may_exchange (a_row a_at : D) : Out Unit Unit := ((((Rs.nx a_row).bind fun x2 => (Rs.nx a_at).bind fun x3 => ixD x2 x3).bind fun x8 => ((Rs.nx a_row).bind fun x6 => ((Rs.nx a_at).bind fun x4 => (Rs.nx (.int 1)).bind fun x5 => intD (· + ·) x4 x5).bind fun x7 => ixD x6 x7).bind fun x9 => minD [x8, x9]).to fun low1 => ((((Rs.nx a_row).bind fun x11 => (Rs.nx a_at).bind fun x12 => ixD x11 x12).bind fun x17 => ((Rs.nx a_row).bind fun x15 => ((Rs.nx a_at).bind fun x13 => (Rs.nx (.int 1)).bind fun x14 => intD (· + ·) x13 x14).bind fun x16 => ixD x15 x16).bind fun x18 => maxD [x17, x18]).to fun high10 => (((((Rs.nx a_at).bind fun x32 => (Rs.nx (.int 0)).bind fun x33 => ofO (gtO x32 x33)).bind fun c34 => if c34 = true then (((Rs.nx low1).bind fun x29 => ((Rs.nx a_row).bind fun x27 => ((Rs.nx a_at).bind fun x25 => (Rs.nx (.int 1)).bind fun x26 => intD (· - ·) x25 x26).bind fun x28 => ixD x27 x28).bind fun x30 => ofO (ltO x29 x30)).bind fun c31 => if c31 = true then (((Rs.nx a_row).bind fun x21 => ((Rs.nx a_at).bind fun x19 => (Rs.nx (.int 1)).bind fun x20 => intD (· - ·) x19 x20).bind fun x22 => ixD x21 x22).bind fun x23 => (Rs.nx high10).bind fun x24 => ofO (ltO x23 x24)) else Rs.nx false) else Rs.nx false).to fun c => if c = true then ((Rs.nx (.bl true)).to Out.rt) else (Out.nx ())).bind fun (s35 : Unit) => (((((Rs.nx a_at).bind fun x49 => (Rs.nx (.int 2)).bind fun x50 => intD (· + ·) x49 x50).bind fun x52 => ((Rs.nx a_row).bind fun x51 => lenD [x51]).bind fun x53 => ofB (ltO x52 x53)).bind fun x54 => andD x54 (((Rs.nx low1).bind fun x46 => ((Rs.nx a_row).bind fun x44 => ((Rs.nx a_at).bind fun x42 => (Rs.nx (.int 2)).bind fun x43 => intD (· + ·) x42 x43).bind fun x45 => ixD x44 x45).bind fun x47 => ofB (ltO x46 x47)).bind fun x48 => andD x48 (((Rs.nx a_row).bind fun x38 => ((Rs.nx a_at).bind fun x36 => (Rs.nx (.int 2)).bind fun x37 => intD (· + ·) x36 x37).bind fun x39 => ixD x38 x39).bind fun x40 => (Rs.nx high10).bind fun x41 => ofB (ltO x40 x41)))).to Out.rt))))
def f_exchanged (a_row a_at : D) : Out Unit Unit := (((((Rs.nx a_row).bind fun x3 => (Rs.nx none).bind fun l4 => ((Rs.nx a_at).bind fun x1 => (asI x1).bind fun i2 => Rs.nx (some i2)).bind fun h5 => cutD x3 l4 h5).bind fun x14 => ((((Rs.nx a_row).bind fun x8 => ((Rs.nx a_at).bind fun x6 => (Rs.nx (.int 1)).bind fun x7 => intD (· + ·) x6 x7).bind fun x9 => ixD x8 x9).bind fun x12 => ((Rs.nx a_row).bind fun x10 => (Rs.nx a_at).bind fun x11 => ixD x10 x11).bind fun x13 => Rs.nx [x12, x13]).bind lstD).bind fun x15 => catD x14 x15).bind fun x23 => ((Rs.nx a_row).bind fun x20 => (((Rs.nx a_at).bind fun x16 => (Rs.nx (.int 2)).bind fun x17 => intD (· + ·) x16 x17).bind fun x18 => (asI x18).bind fun i19 => Rs.nx (some i19)).bind fun l21 => (Rs.nx none).bind fun h22 => cutD x20 l21 h22).bind fun x24 => catD x23 x24).to Out.rt)
def f_next_rows (a_row : D) : Out Unit Unit := ((((((Rs.nx a_row).bind fun x2 => lenD [x2]).bind fun x3 => (Rs.nx (.int 1)).bind fun x4 => intD (· - ·) x3 x4).bind fun x5 => Rs.nx [x5]).bind fun a10 => (rng1 a10).bind (compRg (fun d1 => (((Rs.nx a_row).bind fun x8 => (Rs.nx d1).bind fun x9 => callN (f_may_exchange x8 x9)).bind asB)) fun d1 => ((Rs.nx a_row).bind fun x6 => (Rs.nx d1).bind fun x7 => callN (f_exchanged x6 x7)))).to Out.rt)
def f_law_between (a_row a_at a_low a_high : D) : Out Unit Unit := ((((Rs.nx (.int 0)).bind fun x14 => (Rs.nx a_at).bind fun x15 => ofB (leO x14 x15)).bind fun x16 => andD x16 (((Rs.nx a_at).bind fun x11 => ((Rs.nx a_row).bind fun x10 => lenD [x10]).bind fun x12 => ofB (ltO x11 x12)).bind fun x13 => andD x13 (((Rs.nx a_low).bind fun x7 => ((Rs.nx a_row).bind fun x5 => (Rs.nx a_at).bind fun x6 => ixD x5 x6).bind fun x8 => ofB (ltO x7 x8)).bind fun x9 => andD x9 (((Rs.nx a_row).bind fun x1 => (Rs.nx a_at).bind fun x2 => ixD x1 x2).bind fun x3 => (Rs.nx a_high).bind fun x4 => ofB (ltO x3 x4))))).to Out.rt)
def f_law_k12 (a_script : D) : Out Unit Unit := (((Rs.nx a_script).bind fun x2 => (Rs.nx (.int 40)).bind fun x3 => callN (f_law_row_by x2 x3)).to fun row1 => ((((Rs.nx [] : Rs (List D))).bind lstD).to fun due4 => ((((((Rs.nx row1).bind fun x5 => lenD [x5]).bind fun x6 => (Rs.nx (.int 1)).bind fun x7 => intD (· - ·) x6 x7).bind fun x8 => Rs.nx [x8]).to fun a94 => (rngD1 a94).to fun ds95 => forL (fun (d9 : D) (s10 : D) => ((((Rs.nx row1).bind fun x18 => ((Rs.nx d9).bind fun x12 => (asI x12).bind fun i13 => Rs.nx (some i13)).bind fun l19 => (((Rs.nx d9).bind fun x14 => (Rs.nx (.int 2)).bind fun x15 => intD (· + ·) x14 x15).bind fun x16 => (asI x16).bind fun i17 => Rs.nx (some i17)).bind fun h20 => cutD x18 l19 h20).bind fun x21 => minD [x21]).to fun low11 => ((((Rs.nx row1).bind fun x29 => ((Rs.nx d9).bind fun x23 => (asI x23).bind fun i24 => Rs.nx (some i24)).bind fun l30 => (((Rs.nx d9).bind fun x25 => (Rs.nx (.int 2)).bind fun x26 => intD (· + ·) x25 x26).bind fun x27 => (asI x27).bind fun i28 => Rs.nx (some i28)).bind fun h31 => cutD x29 l30 h31).bind fun x32 => maxD [x32]).to fun high22 => ((((((Rs.nx row1).bind fun x41 => ((Rs.nx d9).bind fun x39 => (Rs.nx (.int 1)).bind fun x40 => intD (· - ·) x39 x40).bind fun x42 => (Rs.nx low11).bind fun x43 => (Rs.nx high22).bind fun x44 => callN (f_law_between x41 x42 x43 x44)).bind asB).bind fun c45 => if c45 = true then Rs.nx true else (((Rs.nx row1).bind fun x35 => ((Rs.nx d9).bind fun x33 => (Rs.nx (.int 2)).bind fun x34 => intD (· + ·) x33 x34).bind fun x36 => (Rs.nx low11).bind fun x37 => (Rs.nx high22).bind fun x38 => callN (f_law_between x35 x36 x37 x38)).bind asB)).to fun c => if c = true then ((Rs.nx none).to fun j47 => (opD j47 appL s10 ((((Rs.nx row1).bind fun x51 => (Rs.nx none).bind fun l52 => ((Rs.nx d9).bind fun x49 => (asI x49).bind fun i50 => Rs.nx (some i50)).bind fun h53 => cutD x51 l52 h53).bind fun x62 => ((((Rs.nx row1).bind fun x56 => ((Rs.nx d9).bind fun x54 => (Rs.nx (.int 1)).bind fun x55 => intD (· + ·) x54 x55).bind fun x57 => ixD x56 x57).bind fun x60 => ((Rs.nx row1).bind fun x58 => (Rs.nx d9).bind fun x59 => ixD x58 x59).bind fun x61 => Rs.nx [x60, x61]).bind lstD).bind fun x63 => catD x62 x63).bind fun x71 => ((Rs.nx row1).bind fun x68 => (((Rs.nx d9).bind fun x64 => (Rs.nx (.int 2)).bind fun x65 => intD (· + ·) x64 x65).bind fun x66 => (asI x66).bind fun i67 => Rs.nx (some i67)).bind fun l69 => (Rs.nx none).bind fun h70 => cutD x68 l69 h70).bind fun x72 => catD x71 x72)).to fun due48 => (Out.nx due48)) else (Out.nx s10)).bind fun (s46 : D) => (Out.nx s46))))) ds95 due4).bind fun (s73 : D) => (((Rs.nx row1).bind fun x75 => listD [x75]).to fun handed74 => (((Rs.nx handed74).bind fun x77 => callN (f_next_rows x77)).to fun found76 => (((((((Rs.nx found76).bind fun x81 => (Rs.nx s73).bind fun x82 => callN (f_law_rows x81 x82)).bind asB).bind fun c83 => Rs.nx (!c83)).bind fun c84 => if c84 = true then Rs.nx true else ((((Rs.nx handed74).bind fun x78 => (Rs.nx row1).bind fun x79 => callN (f_law_row x78 x79)).bind asB).bind fun c80 => Rs.nx (!c80))).to fun c => if c = true then ((Rs.nx (.bl false)).to Out.rt) else (Out.nx ())).bind fun (s85 : Unit) => ((Rs.nx found76).to fun d92 => (appAllD d92).to fun u93 => (((((Rs.nx handed74).bind fun x88 => callN (f_next_rows x88)).bind fun x89 => (Rs.nx s73).bind fun x90 => callN (f_law_rows x89 x90)).bind fun x91 => andD x91 ((Rs.nx handed74).bind fun x86 => (Rs.nx row1).bind fun x87 => callN (f_law_row x86 x87))).to Out.rt))))))))
def f_law_k13 (a_script : D) : Out Unit Unit := (((Rs.nx a_script).bind fun x2 => (Rs.nx (.int 14)).bind fun x3 => callN (f_law_row_by x2 x3)).to fun row1 => ((((Rs.nx row1).bind fun x5 => listD [x5]).bind fun x6 => callN (f_laid x6)).to fun due4 => (((((((Rs.nx due4).bind fun x11 => ofB (isiO "tuple" x11)).bind asB).bind fun c12 => Rs.nx (!c12)).bind fun c13 => if c13 = true then Rs.nx true else (((((Rs.nx due4).bind fun x7 => (Rs.nx (.int 0)).bind fun x8 => ixD x7 x8).bind fun x9 => ofB (isiO "list" x9)).bind asB).bind fun c10 => Rs.nx (!c10))).to fun c => if c = true then ((Rs.nx (.bl false)).to Out.rt) else (Out.nx ())).bind fun (s14 : Unit) => ((((Rs.nx row1).bind fun x16 => listD [x16]).bind fun x17 => callN (f_next_rows x17)).to fun found15 => ((((((Rs.nx found15).bind fun x18 => ofB (isiO "list" x18)).bind asB).bind fun c19 => Rs.nx (!c19)).to fun c => if c = true then ((Rs.nx (.bl false)).to Out.rt) else (Out.nx ())).bind fun (s20 : Unit) => (((Rs.nx found15).to fun a45 => (seqD a45).to fun ds46 => forL (fun (d21 : D) (s22 : Unit) => (((((((Rs.nx d21).bind fun x30 => ofB (isiO "list" x30)).bind asB).bind fun c31 => Rs.nx (!c31)).bind fun c32 => if c32 = true then Rs.nx true else ((((Rs.nx d21).bind fun x25 => sortedD [x25]).bind fun x27 => ((Rs.nx row1).bind fun x26 => sortedD [x26]).bind fun x28 => ofO (neO x27 x28)).bind fun c29 => if c29 = true then Rs.nx true else ((Rs.nx d21).bind fun x23 => (Rs.nx row1).bind fun x24 => ofO (eqO x23 x24)))).to fun c => if c = true then ((Rs.nx (.bl false)).to Out.rt) else (Out.nx ())).bind fun (s33 : Unit) => (((((((((Rs.nx d21).bind fun x34 => listD [x34]).bind fun x35 => callN (f_laid x35)).bind fun x36 => (Rs.nx (.int 0)).bind fun x37 => ixD x36 x37).bind fun x40 => ((Rs.nx due4).bind fun x38 => (Rs.nx (.int 0)).bind fun x39 => ixD x38 x39).bind fun x41 => callN (f_law_rows x40 x41)).bind asB).bind fun c42 => Rs.nx (!c42)).to fun c => if c = true then ((Rs.nx (.bl false)).to Out.rt) else (Out.nx ())).bind fun (s43 : Unit) => (Out.nx ())))) ds46 ()).bind fun (s44 : Unit) => ((Rs.nx (.bl true)).to Out.rt)))))))
def f_chain (a_row : D) : Out Unit Unit := (((((Rs.nx a_row).bind fun x2 => listD [x2]).bind fun x3 => Rs.nx [x3]).bind lstD).to fun found1 => ((((Rs.nx [] : Rs (List D))).bind lstD).to fun rows4 => (((((Rs.nx a_row).bind fun x5 => lenD [x5]).bind fun x6 => Rs.nx [x6]).to fun a81 => (rngD1 a81).to fun ds82 => forL (fun (d7 : D) (s8 : D × D) => ((((Rs.nx a_row).bind fun x10 => (Rs.nx d7).bind fun x11 => ixD x10 x11).bind at?).to fun number9 => (((Rs.nx d7).bind at?).to fun v_end12 => (((Rs.nx s8.2).to fun a78 => (seqD a78).to fun ds79 => forL (fun (d13 : D) (s14 : D × D × D) => ((((Rs.nx d13).bind fun x16 => (Rs.nx s14.2.1).bind fun x17 => callN (f_place_in x16 x17)).bind at?).to fun j15 => ((((Rs.nx j15).bind fun x19 => ((Rs.nx d13).bind fun x18 => lenD [x18]).bind fun x20 => ofO (eqO x19 x20)).to fun c => if c = true then (Out.bk (s14.1, s14.2.1, s14.2.2)) else (Out.nx ())).bind fun (s21 : Unit) => (((Rs.nx s14.2.2).bind fun x24 => ((Rs.nx d13).bind fun x23 => lenD [x23]).bind fun x25 => intD (· - ·) x24 x25).to fun begin22 => ((((((Rs.nx d13).bind fun x26 => lenD [x26]).bind fun x27 => (Rs.nx (.int 1)).bind fun x28 => intD (· - ·) x27 x28).bind fun x30 => (Rs.nx j15).bind fun x31 => ((Rs.nx (.int 1)).bind fun x29 => negD x29).bind fun x32 => Rs.nx [x30, x31, x32]).to fun a70 => (rngD3 a70).to fun ds71 => forL (fun (d33 : D) (s34 : D) => ((Rs.nx none).to fun j35 => (opD j35 appL s34 (((Rs.nx s34).bind fun x38 => ((Rs.nx (.int 1)).bind fun x37 => negD x37).bind fun x39 => ixD x38 x39).bind fun x42 => ((Rs.nx begin22).bind fun x40 => (Rs.nx d33).bind fun x41 => intD (· + ·) x40 x41).bind fun x43 => callN (f_exchanged x42 x43))).to fun found36 => (Out.nx found36))) ds71 s14.1).bind fun (s44 : D) => (((((Rs.nx j15).bind fun x45 => (Rs.nx (.int 1)).bind fun x46 => intD (· - ·) x45 x46).bind fun x49 => ((Rs.nx (.int 1)).bind fun x47 => negD x47).bind fun x50 => ((Rs.nx (.int 1)).bind fun x48 => negD x48).bind fun x51 => Rs.nx [x49, x50, x51]).to fun a68 => (rngD3 a68).to fun ds69 => forL (fun (d52 : D) (s53 : D) => ((Rs.nx none).to fun j54 => (opD j54 appL s53 (((Rs.nx s53).bind fun x57 => ((Rs.nx (.int 1)).bind fun x56 => negD x56).bind fun x58 => ixD x57 x58).bind fun x61 => ((Rs.nx begin22).bind fun x59 => (Rs.nx d52).bind fun x60 => intD (· + ·) x59 x60).bind fun x62 => callN (f_exchanged x61 x62))).to fun found55 => (Out.nx found55))) ds69 s44).bind fun (s63 : D) => ((((Rs.nx d13).bind fun x65 => (Rs.nx j15).bind fun x66 => ixD x65 x66).bind at?).to fun number64 => (((Rs.nx begin22).bind at?).to fun v_end67 => (Out.nx (s63, number64, v_end67)))))))))) ds79 (s8.1, number9, v_end12)).bind fun (s72 : D × D × D) => ((((Rs.nx s8.2).bind fun x76 => ((Rs.nx a_row).bind fun x74 => (Rs.nx d7).bind fun x75 => ixD x74 x75).bind fun x77 => callN (f_lay_in x76 x77)).bind (itemAt 0)).to fun rows73 => (Out.nx (s72.1, rows73))))))) ds82 (found1, rows4)).bind fun (s80 : D × D) => (((Rs.nx s80.1).bind (full? 2)).to Out.rt))))
def f_law_one_exchange (a_row a_other : D) : Out Unit Unit := (((((Rs.nx a_row).bind fun x3 => lenD [x3]).bind fun x4 => Rs.nx [x4]).bind fun a11 => (rng1 a11).bind (compRg (fun d2 => (((Rs.nx a_row).bind fun x5 => (Rs.nx d2).bind fun x6 => ixD x5 x6).bind fun x9 => ((Rs.nx a_other).bind fun x7 => (Rs.nx d2).bind fun x8 => ixD x7 x8).bind fun x10 => ofO (neO x9 x10))) fun d2 => ((Rs.nx d2).bind at?))).to fun unlike1 => ((((((Rs.nx unlike1).bind fun x20 => lenD [x20]).bind fun x21 => (Rs.nx (.int 2)).bind fun x22 => ofO (neO x21 x22)).bind fun c23 => if c23 = true then Rs.nx true else (((Rs.nx unlike1).bind fun x12 => (Rs.nx (.int 1)).bind fun x13 => ixD x12 x13).bind fun x18 => (((Rs.nx unlike1).bind fun x14 => (Rs.nx (.int 0)).bind fun x15 => ixD x14 x15).bind fun x16 => (Rs.nx (.int 1)).bind fun x17 => intD (· + ·) x16 x17).bind fun x19 => ofO (neO x18 x19))).to fun c => if c = true then ((Rs.nx (.bl false)).to Out.rt) else (Out.nx ())).bind fun (s24 : Unit) => ((((Rs.nx unlike1).bind fun x26 => (Rs.nx (.int 0)).bind fun x27 => ixD x26 x27).bind at?).to fun v_at25 => ((((((Rs.nx a_other).bind fun x36 => (Rs.nx v_at25).bind fun x37 => ixD x36 x37).bind fun x42 => ((Rs.nx a_row).bind fun x40 => ((Rs.nx v_at25).bind fun x38 => (Rs.nx (.int 1)).bind fun x39 => intD (· + ·) x38 x39).bind fun x41 => ixD x40 x41).bind fun x43 => ofO (neO x42 x43)).bind fun c44 => if c44 = true then Rs.nx true else (((Rs.nx a_other).bind fun x30 => ((Rs.nx v_at25).bind fun x28 => (Rs.nx (.int 1)).bind fun x29 => intD (· + ·) x28 x29).bind fun x31 => ixD x30 x31).bind fun x34 => ((Rs.nx a_row).bind fun x32 => (Rs.nx v_at25).bind fun x33 => ixD x32 x33).bind fun x35 => ofO (neO x34 x35))).to fun c => if c = true then ((Rs.nx (.bl false)).to Out.rt) else (Out.nx ())).bind fun (s45 : Unit) => ((((Rs.nx a_row).bind fun x53 => ((Rs.nx v_at25).bind fun x47 => (asI x47).bind fun i48 => Rs.nx (some i48)).bind fun l54 => (((Rs.nx v_at25).bind fun x49 => (Rs.nx (.int 2)).bind fun x50 => intD (· + ·) x49 x50).bind fun x51 => (asI x51).bind fun i52 => Rs.nx (some i52)).bind fun h55 => cutD x53 l54 h55).bind fun x56 => minD [x56]).to fun low46 => ((((Rs.nx a_row).bind fun x64 => ((Rs.nx v_at25).bind fun x58 => (asI x58).bind fun i59 => Rs.nx (some i59)).bind fun l65 => (((Rs.nx v_at25).bind fun x60 => (Rs.nx (.int 2)).bind fun x61 => intD (· + ·) x60 x61).bind fun x62 => (asI x62).bind fun i63 => Rs.nx (some i63)).bind fun h66 => cutD x64 l65 h66).bind fun x67 => maxD [x67]).to fun high57 => ((((Rs.nx a_row).bind fun x76 => ((Rs.nx v_at25).bind fun x74 => (Rs.nx (.int 1)).bind fun x75 => intD (· - ·) x74 x75).bind fun x77 => (Rs.nx low46).bind fun x78 => (Rs.nx high57).bind fun x79 => callN (f_law_between x76 x77 x78 x79)).bind fun x80 => orD x80 ((Rs.nx a_row).bind fun x70 => ((Rs.nx v_at25).bind fun x68 => (Rs.nx (.int 2)).bind fun x69 => intD (· + ·) x68 x69).bind fun x71 => (Rs.nx low46).bind fun x72 => (Rs.nx high57).bind fun x73 => callN (f_law_between x70 x71 x72 x73))).to Out.rt)))))))
def f_law_k14 (a_script : D) : Out Unit Unit := (((Rs.nx a_script).bind fun x2 => (Rs.nx (.int 12)).bind fun x3 => callN (f_law_row_by x2 x3)).to fun row1 => ((((Rs.nx [] : Rs (List D))).bind lstD).to fun due4 => (((((Rs.nx row1).bind fun x5 => callN (f_law_laid x5)).bind (itemAt 0)).to fun a92 => (seqD a92).to fun ds93 => forL (fun (d6 : D) (s7 : D) => (((Rs.nx d6).bind fun x9 => (Rs.nx s7).bind fun x10 => catD x9 x10).to fun due8 => (Out.nx due8))) ds93 due4).bind fun (s11 : D) => (((Rs.nx row1).bind fun x13 => listD [x13]).to fun handed12 => (((Rs.nx handed12).bind fun x15 => callN (f_chain x15)).to fun found14 => (((((((Rs.nx found14).bind fun x27 => ofB (isiO "list" x27)).bind asB).bind fun c28 => Rs.nx (!c28)).bind fun c29 => if c29 = true then Rs.nx true else ((((Rs.nx found14).bind fun x23 => lenD [x23]).bind fun x24 => (Rs.nx (.int 1)).bind fun x25 => ofO (ltO x24 x25)).bind fun c26 => if c26 = true then Rs.nx true else ((((Rs.nx found14).bind fun x19 => lenD [x19]).bind fun x20 => (Rs.nx (.int 500)).bind fun x21 => ofO (gtO x20 x21)).bind fun c22 => if c22 = true then Rs.nx true else ((((Rs.nx handed12).bind fun x16 => (Rs.nx row1).bind fun x17 => callN (f_law_row x16 x17)).bind asB).bind fun c18 => Rs.nx (!c18))))).to fun c => if c = true then ((Rs.nx (.bl false)).to Out.rt) else (Out.nx ())).bind fun (s30 : Unit) => (((((Rs.nx found14).bind fun x31 => lenD [x31]).bind fun x32 => Rs.nx [x32]).to fun a90 => (rngD1 a90).to fun ds91 => forL (fun (d33 : D) (s34 : Unit) => ((((((((Rs.nx found14).bind fun x49 => (Rs.nx d33).bind fun x50 => ixD x49 x50).bind fun x51 => ofB (isiO "list" x51)).bind asB).bind fun c52 => Rs.nx (!c52)).bind fun c53 => if c53 = true then Rs.nx true else (((((Rs.nx found14).bind fun x42 => (Rs.nx d33).bind fun x43 => ixD x42 x43).bind fun x44 => lenD [x44]).bind fun x46 => ((Rs.nx row1).bind fun x45 => lenD [x45]).bind fun x47 => ofO (neO x46 x47)).bind fun c48 => if c48 = true then Rs.nx true else (((((Rs.nx found14).bind fun x35 => (Rs.nx d33).bind fun x36 => ixD x35 x36).bind fun x39 => ((Rs.nx found14).bind fun x37 => (Rs.nx d33).bind fun x38 => ixD x37 x38).bind fun x40 => callN (f_law_row x39 x40)).bind asB).bind fun c41 => Rs.nx (!c41)))).to fun c => if c = true then ((Rs.nx (.bl false)).to Out.rt) else (Out.nx ())).bind fun (s54 : Unit) => (((((Rs.nx d33).bind fun x64 => (Rs.nx (.int 0)).bind fun x65 => ofO (gtO x64 x65)).bind fun c66 => if c66 = true then (((((Rs.nx found14).bind fun x57 => ((Rs.nx d33).bind fun x55 => (Rs.nx (.int 1)).bind fun x56 => intD (· - ·) x55 x56).bind fun x58 => ixD x57 x58).bind fun x61 => ((Rs.nx found14).bind fun x59 => (Rs.nx d33).bind fun x60 => ixD x59 x60).bind fun x62 => callN (f_law_one_exchange x61 x62)).bind asB).bind fun c63 => Rs.nx (!c63)) else Rs.nx false).to fun c => if c = true then ((Rs.nx (.bl false)).to Out.rt) else (Out.nx ())).bind fun (s67 : Unit) => (Out.nx ())))) ds91 ()).bind fun (s68 : Unit) => ((((((((Rs.nx found14).bind fun x77 => (Rs.nx (.int 0)).bind fun x78 => ixD x77 x78).bind fun x79 => (Rs.nx row1).bind fun x80 => callN (f_law_row x79 x80)).bind asB).bind fun c81 => Rs.nx (!c81)).bind fun c82 => if c82 = true then Rs.nx true else (((((Rs.nx found14).bind fun x72 => (((Rs.nx found14).bind fun x69 => lenD [x69]).bind fun x70 => (Rs.nx (.int 1)).bind fun x71 => intD (· - ·) x70 x71).bind fun x73 => ixD x72 x73).bind fun x74 => (Rs.nx s11).bind fun x75 => callN (f_law_row x74 x75)).bind asB).bind fun c76 => Rs.nx (!c76))).to fun c => if c = true then ((Rs.nx (.bl false)).to Out.rt) else (Out.nx ())).bind fun (s83 : Unit) => (((Rs.nx (.int 0)).bind fun x84 => (idxD found14 x84).bind fun j85 => Rs.nx (some j85)).to fun j86 => (opD j86 appL found14 (Rs.nx (.int 7))).to fun found87 => (((Rs.nx handed12).bind fun x88 => (Rs.nx row1).bind fun x89 => callN (f_law_row x88 x89)).to Out.rt))))))))))
def f_law_perm_by (a_script a_many a_at : D) : Out Unit Unit := ((((Rs.nx [] : Rs (List D))).bind lstD).to fun row1 => ((((Rs.nx a_many).bind fun x2 => Rs.nx [x2]).to fun a17 => (rngD1 a17).to fun ds18 => forL (fun (d3 : D) (s4 : D) => ((Rs.nx none).to fun j5 => (insD j5 s4 ((Rs.nx a_script).bind fun x11 => ((Rs.nx a_at).bind fun x7 => (Rs.nx d3).bind fun x8 => intD (· + ·) x7 x8).bind fun x12 => ((Rs.nx d3).bind fun x9 => (Rs.nx (.int 1)).bind fun x10 => intD (· + ·) x9 x10).bind fun x13 => callN (f_law_drawn x11 x12 x13)) ((Rs.nx d3).bind fun x14 => (Rs.nx (.int 1)).bind fun x15 => intD (· + ·) x14 x15)).to fun row6 => (Out.nx row6))) ds18 row1).bind fun (s16 : D) => (((Rs.nx s16).bind (full? 1)).to Out.rt)))
def f_law_next_k15 (a_row : D) : Out Unit Unit := ((((Rs.nx [] : Rs (List D))).bind lstD).to fun found1 => ((((((Rs.nx a_row).bind fun x2 => lenD [x2]).bind fun x3 => (Rs.nx (.int 1)).bind fun x4 => intD (· - ·) x3 x4).bind fun x5 => Rs.nx [x5]).to fun a92 => (rngD1 a92).to fun ds93 => forL (fun (d6 : D) (s7 : D) => ((((Rs.nx a_row).bind fun x15 => ((Rs.nx d6).bind fun x9 => (asI x9).bind fun i10 => Rs.nx (some i10)).bind fun l16 => (((Rs.nx d6).bind fun x11 => (Rs.nx (.int 2)).bind fun x12 => intD (· + ·) x11 x12).bind fun x13 => (asI x13).bind fun i14 => Rs.nx (some i14)).bind fun h17 => cutD x15 l16 h17).bind fun x18 => minD [x18]).to fun low8 => ((((Rs.nx a_row).bind fun x26 => ((Rs.nx d6).bind fun x20 => (asI x20).bind fun i21 => Rs.nx (some i21)).bind fun l27 => (((Rs.nx d6).bind fun x22 => (Rs.nx (.int 2)).bind fun x23 => intD (· + ·) x22 x23).bind fun x24 => (asI x24).bind fun i25 => Rs.nx (some i25)).bind fun h28 => cutD x26 l27 h28).bind fun x29 => maxD [x29]).to fun high19 => ((((Rs.nx a_row).bind fun x39 => (((Rs.nx (.int 0)).bind fun x33 => ((Rs.nx d6).bind fun x31 => (Rs.nx (.int 1)).bind fun x32 => intD (· - ·) x31 x32).bind fun x34 => maxD [x33, x34]).bind fun x35 => (asI x35).bind fun i36 => Rs.nx (some i36)).bind fun l40 => ((Rs.nx d6).bind fun x37 => (asI x37).bind fun i38 => Rs.nx (some i38)).bind fun h41 => cutD x39 l40 h41).bind fun x53 => ((Rs.nx a_row).bind fun x50 => (((Rs.nx d6).bind fun x42 => (Rs.nx (.int 2)).bind fun x43 => intD (· + ·) x42 x43).bind fun x44 => (asI x44).bind fun i45 => Rs.nx (some i45)).bind fun l51 => (((Rs.nx d6).bind fun x46 => (Rs.nx (.int 3)).bind fun x47 => intD (· + ·) x46 x47).bind fun x48 => (asI x48).bind fun i49 => Rs.nx (some i49)).bind fun h52 => cutD x50 l51 h52).bind fun x54 => catD x53 x54).to fun sides30 => ((((((Rs.nx sides30).bind (compS (fun d55 => (((Rs.nx low8).bind fun x58 => (Rs.nx d55).bind fun x59 => ofO (ltO x58 x59)).bind fun c60 => if c60 = true then ((Rs.nx d55).bind fun x56 => (Rs.nx high19).bind fun x57 => ofO (ltO x56 x57)) else Rs.nx false)) fun d55 => ((Rs.nx d55).bind at?))).bind fun x61 => lenD [x61]).bind fun x62 => (Rs.nx (.int 0)).bind fun x63 => ofO (gtO x62 x63)).to fun c => if c = true then ((Rs.nx none).to fun j65 => (opD j65 appL s7 ((((Rs.nx a_row).bind fun x69 => (Rs.nx none).bind fun l70 => ((Rs.nx d6).bind fun x67 => (asI x67).bind fun i68 => Rs.nx (some i68)).bind fun h71 => cutD x69 l70 h71).bind fun x80 => ((((Rs.nx a_row).bind fun x74 => ((Rs.nx d6).bind fun x72 => (Rs.nx (.int 1)).bind fun x73 => intD (· + ·) x72 x73).bind fun x75 => ixD x74 x75).bind fun x78 => ((Rs.nx a_row).bind fun x76 => (Rs.nx d6).bind fun x77 => ixD x76 x77).bind fun x79 => Rs.nx [x78, x79]).bind lstD).bind fun x81 => catD x80 x81).bind fun x89 => ((Rs.nx a_row).bind fun x86 => (((Rs.nx d6).bind fun x82 => (Rs.nx (.int 2)).bind fun x83 => intD (· + ·) x82 x83).bind fun x84 => (asI x84).bind fun i85 => Rs.nx (some i85)).bind fun l87 => (Rs.nx none).bind fun h88 => cutD x86 l87 h88).bind fun x90 => catD x89 x90)).to fun found66 => (Out.nx found66)) else (Out.nx s7)).bind fun (s64 : D) => (Out.nx s64)))))) ds93 found1).bind fun (s91 : D) => (((Rs.nx s91).bind (full? 2)).to Out.rt)))
def f_law_reach (a_row : D) : Out Unit Unit := ((((Rs.nx a_row).bind fun x2 => Rs.nx [x2]).bind lstD).to fun found1 => ((Rs.nx (.int 0)).to fun done3 => ((whileF (fun s4 : D × D => ((Rs.nx s4.2).bind fun x8 => ((Rs.nx s4.1).bind fun x7 => lenD [x7]).bind fun x9 => ofO (ltO x8 x9))) (fun s5 : D × D => (((Rs.nx s5.1).bind fun x17 => ((((Rs.nx s5.1).bind fun x12 => (Rs.nx s5.2).bind fun x13 => ixD x12 x13).bind fun x14 => callN (f_law_next_k15 x14)).bind (filtD fun d11 => ((Rs.nx d11).bind fun x15 => (Rs.nx s5.1).bind fun x16 => ofO (ninO x15 x16)))).bind fun x18 => addD x17 x18).to fun found10 => (((Rs.nx s5.2).bind fun x20 => (Rs.nx (.int 1)).bind fun x21 => intD (· + ·) x20 x21).to fun done19 => (Out.nx (found10, done19))))) 1000 (found1, done3)).bind fun (s6 : D × D) => ((Rs.nx s6.1).to Out.rt))))
def f_law_k15 (a_script : D) : Out Unit Unit := ((((Rs.nx a_script).bind fun x2 => (Rs.nx (.int 0)).bind fun x3 => (Rs.nx (.int 6)).bind fun x4 => callN (f_law_drawn x2 x3 x4)).bind at?).to fun many1 => (((Rs.nx a_script).bind fun x6 => (Rs.nx many1).bind fun x7 => (Rs.nx (.int 10)).bind fun x8 => callN (f_law_perm_by x6 x7 x8)).to fun row5 => (((Rs.nx a_script).bind fun x10 => (Rs.nx many1).bind fun x11 => (Rs.nx (.int 20)).bind fun x12 => callN (f_law_perm_by x10 x11 x12)).to fun other9 => (((Rs.nx row5).bind fun x14 => callN (f_law_reach x14)).to fun reach13 => (((((Rs.nx a_script).bind fun x15 => (Rs.nx (.int 1)).bind fun x16 => (Rs.nx (.int 3)).bind fun x17 => callN (f_law_drawn x15 x16 x17)).bind fun x18 => (Rs.nx (.int 1)).bind fun x19 => ofO (eqO x18 x19)).to fun c => if c = true then (((Rs.nx reach13).bind fun x26 => ((Rs.nx a_script).bind fun x23 => (Rs.nx (.int 2)).bind fun x24 => ((Rs.nx reach13).bind fun x22 => lenD [x22]).bind fun x25 => callN (f_law_drawn x23 x24 x25)).bind fun x27 => ixD x26 x27).to fun other21 => (Out.nx other21)) else (Out.nx other9)).bind fun (s20 : D) => ((((Rs.nx row5).bind fun x29 => listD [x29]).bind fun x30 => callN (f_laid x30)).to fun one28 => ((((Rs.nx s20).bind fun x32 => listD [x32]).bind fun x33 => callN (f_laid x33)).to fun two31 => (((((((Rs.nx one28).bind fun x41 => ofB (isiO "tuple" x41)).bind asB).bind fun c42 => Rs.nx (!c42)).bind fun c43 => if c43 = true then Rs.nx true else (((((Rs.nx two31).bind fun x38 => ofB (isiO "tuple" x38)).bind asB).bind fun c39 => Rs.nx (!c39)).bind fun c40 => if c40 = true then Rs.nx true else (((((Rs.nx one28).bind fun x34 => (Rs.nx (.int 0)).bind fun x35 => ixD x34 x35).bind fun x36 => ofB (isiO "list" x36)).bind asB).bind fun c37 => Rs.nx (!c37)))).to fun c => if c = true then ((Rs.nx (.bl false)).to Out.rt) else (Out.nx ())).bind fun (s44 : Unit) => (((((Rs.nx two31).bind fun x45 => (Rs.nx (.int 0)).bind fun x46 => ixD x45 x46).bind fun x49 => ((Rs.nx one28).bind fun x47 => (Rs.nx (.int 0)).bind fun x48 => ixD x47 x48).bind fun x50 => callN (f_law_rows x49 x50)).bind fun x53 => ((Rs.nx s20).bind fun x51 => (Rs.nx reach13).bind fun x52 => ofB (inO x51 x52)).bind fun x54 => ofB (eqO x53 x54)).to Out.rt)))))))))
def f_holes (a_row : D) : Out Unit Unit := ((Rs.nx (.int 0)).to fun many1 => ((whileF (fun s2 : D => (((Rs.nx s2).bind fun x10 => ((Rs.nx a_row).bind fun x9 => lenD [x9]).bind fun x11 => ofO (ltO x10 x11)).bind fun c12 => if c12 = true then (((Rs.nx a_row).bind fun x5 => (Rs.nx s2).bind fun x6 => ixD x5 x6).bind fun x7 => (Rs.nx .non).bind fun x8 => ofO (isO x7 x8)) else Rs.nx false)) (fun s3 : D => (((Rs.nx s3).bind fun x14 => (Rs.nx (.int 1)).bind fun x15 => intD (· + ·) x14 x15).to fun many13 => (Out.nx many13))) 1000 many1).bind fun (s4 : D) => ((Rs.nx s4).to Out.rt)))
def f_is_holed (a_rows : D) : Out Unit Unit := ((((Rs.nx [] : Rs (List D))).bind lstD).to fun numbers1 => (((((Rs.nx a_rows).bind fun x2 => lenD [x2]).bind fun x3 => Rs.nx [x3]).to fun a97 => (rngD1 a97).to fun ds98 => forL (fun (d4 : D) (s5 : D) => (((Rs.nx a_rows).bind fun x7 => (Rs.nx d4).bind fun x8 => ixD x7 x8).to fun row6 => ((((Rs.nx row6).bind fun x10 => callN (f_holes x10)).bind at?).to fun many9 => ((((((Rs.nx row6).bind fun x18 => lenD [x18]).bind fun x19 => (Rs.nx (.int 1)).bind fun x20 => ofO (ltO x19 x20)).bind fun c21 => if c21 = true then Rs.nx true else ((Rs.nx .non).bind fun x16 => ((Rs.nx row6).bind fun x13 => ((Rs.nx many9).bind fun x11 => (asI x11).bind fun i12 => Rs.nx (some i12)).bind fun l14 => (Rs.nx none).bind fun h15 => cutD x13 l14 h15).bind fun x17 => ofO (inO x16 x17))).to fun c => if c = true then ((Rs.nx (.bl false)).to Out.rt) else (Out.nx ())).bind fun (s22 : Unit) => (((((Rs.nx d4).bind fun x39 => (Rs.nx (.int 0)).bind fun x40 => ofO (gtO x39 x40)).bind fun c41 => if c41 = true then (((((Rs.nx a_rows).bind fun x32 => ((Rs.nx d4).bind fun x30 => (Rs.nx (.int 1)).bind fun x31 => intD (· - ·) x30 x31).bind fun x33 => ixD x32 x33).bind fun x34 => lenD [x34]).bind fun x36 => ((Rs.nx row6).bind fun x35 => lenD [x35]).bind fun x37 => ofO (ltO x36 x37)).bind fun c38 => if c38 = true then Rs.nx true else ((((Rs.nx a_rows).bind fun x25 => ((Rs.nx d4).bind fun x23 => (Rs.nx (.int 1)).bind fun x24 => intD (· - ·) x23 x24).bind fun x26 => ixD x25 x26).bind fun x27 => callN (f_holes x27)).bind fun x28 => (Rs.nx many9).bind fun x29 => ofO (ltO x28 x29))) else Rs.nx false).to fun c => if c = true then ((Rs.nx (.bl false)).to Out.rt) else (Out.nx ())).bind fun (s42 : Unit) => ((((Rs.nx many9).bind fun x44 => ((Rs.nx row6).bind fun x43 => lenD [x43]).bind fun x45 => Rs.nx [x44, x45]).to fun a90 => (rngD2 a90).to fun ds91 => forL (fun (d46 : D) (s47 : Unit) => (((((Rs.nx d46).bind fun x56 => (Rs.nx many9).bind fun x57 => ofO (gtO x56 x57)).bind fun c58 => if c58 = true then (((Rs.nx row6).bind fun x50 => ((Rs.nx d46).bind fun x48 => (Rs.nx (.int 1)).bind fun x49 => intD (· - ·) x48 x49).bind fun x51 => ixD x50 x51).bind fun x54 => ((Rs.nx row6).bind fun x52 => (Rs.nx d46).bind fun x53 => ixD x52 x53).bind fun x55 => ofO (geO x54 x55)) else Rs.nx false).to fun c => if c = true then ((Rs.nx (.bl false)).to Out.rt) else (Out.nx ())).bind fun (s59 : Unit) => (((((Rs.nx d4).bind fun x78 => (Rs.nx (.int 0)).bind fun x79 => ofO (gtO x78 x79)).bind fun c80 => if c80 = true then (((Rs.nx d46).bind fun x75 => (((Rs.nx a_rows).bind fun x72 => ((Rs.nx d4).bind fun x70 => (Rs.nx (.int 1)).bind fun x71 => intD (· - ·) x70 x71).bind fun x73 => ixD x72 x73).bind fun x74 => callN (f_holes x74)).bind fun x76 => ofO (geO x75 x76)).bind fun c77 => if c77 = true then ((((Rs.nx a_rows).bind fun x62 => ((Rs.nx d4).bind fun x60 => (Rs.nx (.int 1)).bind fun x61 => intD (· - ·) x60 x61).bind fun x63 => ixD x62 x63).bind fun x64 => (Rs.nx d46).bind fun x65 => ixD x64 x65).bind fun x68 => ((Rs.nx row6).bind fun x66 => (Rs.nx d46).bind fun x67 => ixD x66 x67).bind fun x69 => ofO (geO x68 x69)) else Rs.nx false) else Rs.nx false).to fun c => if c = true then ((Rs.nx (.bl false)).to Out.rt) else (Out.nx ())).bind fun (s81 : Unit) => (Out.nx ())))) ds91 ()).bind fun (s82 : Unit) => ((Rs.nx none).to fun j83 => (extD j83 s5 ((Rs.nx row6).bind fun x87 => ((Rs.nx many9).bind fun x85 => (asI x85).bind fun i86 => Rs.nx (some i86)).bind fun l88 => (Rs.nx none).bind fun h89 => cutD x87 l88 h89)).to fun numbers84 => (Out.nx numbers84)))))))) ds98 numbers1).bind fun (s92 : D) => ((((Rs.nx s92).bind fun x93 => setD x93).bind fun x95 => ((Rs.nx s92).bind fun x94 => lenD [x94]).bind fun x96 => ofB (eqO x95 x96)).to Out.rt)))
def f_is_inner (a_rows a_at : D) : Out Unit Unit := (((((Rs.nx a_at).bind fun x10 => (Rs.nx (.int 0)).bind fun x11 => ofO (ltO x10 x11)).bind fun c12 => if c12 = true then Rs.nx true else (((Rs.nx a_at).bind fun x7 => ((Rs.nx a_rows).bind fun x6 => lenD [x6]).bind fun x8 => ofO (geO x7 x8)).bind fun c9 => if c9 = true then Rs.nx true else ((((Rs.nx a_rows).bind fun x1 => (Rs.nx a_at).bind fun x2 => ixD x1 x2).bind fun x3 => callN (f_holes x3)).bind fun x4 => (Rs.nx (.int 0)).bind fun x5 => ofO (eqO x4 x5)))).to fun c => if c = true then ((Rs.nx (.bl false)).to Out.rt) else (Out.nx ())).bind fun (s13 : Unit) => ((((Rs.nx a_at).bind fun x27 => (((Rs.nx a_rows).bind fun x24 => lenD [x24]).bind fun x25 => (Rs.nx (.int 1)).bind fun x26 => intD (· - ·) x25 x26).bind fun x28 => ofB (eqO x27 x28)).bind fun x29 => orD x29 ((((Rs.nx a_rows).bind fun x16 => ((Rs.nx a_at).bind fun x14 => (Rs.nx (.int 1)).bind fun x15 => intD (· + ·) x14 x15).bind fun x17 => ixD x16 x17).bind fun x18 => callN (f_holes x18)).bind fun x22 => (((Rs.nx a_rows).bind fun x19 => (Rs.nx a_at).bind fun x20 => ixD x19 x20).bind fun x21 => callN (f_holes x21)).bind fun x23 => ofB (ltO x22 x23))).to Out.rt))
def f_slide (a_rows a_at : D) : Out Unit Unit := ((((((Rs.nx a_rows).bind fun x1 => callN (f_is_holed x1)).bind asB).bind fun c2 => Rs.nx (!c2)).to fun c => if c = true then (Out.exc "NoStairs") else (Out.nx ())).bind fun (s3 : Unit) => ((((((Rs.nx a_rows).bind fun x4 => (Rs.nx a_at).bind fun x5 => callN (f_is_inner x4 x5)).bind asB).bind fun c6 => Rs.nx (!c6)).to fun c => if c = true then (Out.exc "NoPlace") else (Out.nx ())).bind fun (s7 : Unit) => (((Rs.nx a_rows).bind (compS yes fun d9 => ((Rs.nx d9).bind fun x10 => listD [x10]))).to fun made8 => (((((Rs.nx made8).bind fun x12 => (Rs.nx a_at).bind fun x13 => ixD x12 x13).bind fun x14 => callN (f_holes x14)).bind fun x15 => (Rs.nx (.int 1)).bind fun x16 => intD (· - ·) x15 x16).to fun j11 => ((Rs.nx (.bl true)).to fun moving17 => ((whileF (fun s18 : D × D × D × D => ((Rs.nx s18.2.2.2).bind asB)) (fun s19 : D × D × D × D => ((Rs.nx .non).to fun right21 => ((Rs.nx .non).to fun below22 => (((((Rs.nx s19.2.2.1).bind fun x23 => (Rs.nx (.int 1)).bind fun x24 => intD (· + ·) x23 x24).bind fun x28 => (((Rs.nx s19.2.1).bind fun x25 => (Rs.nx s19.1).bind fun x26 => ixD x25 x26).bind fun x27 => lenD [x27]).bind fun x29 => ofO (ltO x28 x29)).to fun c => if c = true then (((((Rs.nx s19.2.1).bind fun x32 => (Rs.nx s19.1).bind fun x33 => ixD x32 x33).bind fun x36 => ((Rs.nx s19.2.2.1).bind fun x34 => (Rs.nx (.int 1)).bind fun x35 => intD (· + ·) x34 x35).bind fun x37 => ixD x36 x37).bind at?).to fun right31 => (Out.nx right31)) else (Out.nx right21)).bind fun (s30 : D) => ((((((Rs.nx s19.1).bind fun x45 => (Rs.nx (.int 1)).bind fun x46 => intD (· + ·) x45 x46).bind fun x48 => ((Rs.nx s19.2.1).bind fun x47 => lenD [x47]).bind fun x49 => ofO (ltO x48 x49)).bind fun c50 => if c50 = true then ((Rs.nx s19.2.2.1).bind fun x43 => (((Rs.nx s19.2.1).bind fun x40 => ((Rs.nx s19.1).bind fun x38 => (Rs.nx (.int 1)).bind fun x39 => intD (· + ·) x38 x39).bind fun x41 => ixD x40 x41).bind fun x42 => lenD [x42]).bind fun x44 => ofO (ltO x43 x44)) else Rs.nx false).to fun c => if c = true then (((((Rs.nx s19.2.1).bind fun x55 => ((Rs.nx s19.1).bind fun x53 => (Rs.nx (.int 1)).bind fun x54 => intD (· + ·) x53 x54).bind fun x56 => ixD x55 x56).bind fun x57 => (Rs.nx s19.2.2.1).bind fun x58 => ixD x57 x58).bind at?).to fun below52 => (Out.nx below52)) else (Out.nx below22)).bind fun (s51 : D) => (((((Rs.nx s51).bind fun x64 => (Rs.nx .non).bind fun x65 => ofO (isntO x64 x65)).bind fun c66 => if c66 = true then (((Rs.nx s30).bind fun x61 => (Rs.nx .non).bind fun x62 => ofO (isO x61 x62)).bind fun c63 => if c63 = true then Rs.nx true else ((Rs.nx s51).bind fun x59 => (Rs.nx s30).bind fun x60 => ofO (ltO x59 x60))) else Rs.nx false).to fun c => if c = true then (((Rs.nx s51).bind at?).to fun x70 => ((Rs.nx s19.1).bind fun x68 => (idxD s19.2.1 x68).bind fun j69 => Rs.nx (some j69)).to fun j71 => (Rs.nx s19.2.2.1).to fun x72 => (edD j71 (setL x72 x70) s19.2.1).to fun made73 => (((Rs.nx s19.1).bind fun x75 => (Rs.nx (.int 1)).bind fun x76 => intD (· + ·) x75 x76).to fun v_at74 => (Out.nx (v_at74, made73, s19.2.2.1, s19.2.2.2)))) else ((((Rs.nx s30).bind fun x77 => (Rs.nx .non).bind fun x78 => ofO (isntO x77 x78)).to fun c => if c = true then (((Rs.nx s30).bind at?).to fun x82 => ((Rs.nx s19.1).bind fun x80 => (idxD s19.2.1 x80).bind fun j81 => Rs.nx (some j81)).to fun j83 => (Rs.nx s19.2.2.1).to fun x84 => (edD j83 (setL x84 x82) s19.2.1).to fun made85 => (((Rs.nx s19.2.2.1).bind fun x87 => (Rs.nx (.int 1)).bind fun x88 => intD (· + ·) x87 x88).to fun j86 => (Out.nx (made85, j86, s19.2.2.2)))) else ((Rs.nx (.bl false)).to fun moving89 => (Out.nx (s19.2.1, s19.2.2.1, moving89)))).bind fun (s79 : D × D × D) => (Out.nx (s19.1, s79.1, s79.2.1, s79.2.2)))).bind fun (s67 : D × D × D × D) => (Out.nx (s67.1, s67.2.1, s67.2.2.1, s67.2.2.2)))))))) 1000 (a_at, made8, j11, moving17)).bind fun (s20 : D × D × D × D) => ((lastInD s20.2.1 s20.1).to fun x90 => ((((((Rs.nx (popInD s20.2.1 s20.1)).bind fun x91 => (Rs.nx s20.1).bind fun x92 => ixD x91 x92).bind fun x93 => lenD [x93]).bind fun x94 => (Rs.nx (.int 0)).bind fun x95 => ofO (eqO x94 x95)).to fun c => if c = true then ((lastD (popInD s20.2.1 s20.1)).to fun x97 => (Out.nx (popD (popInD s20.2.1 s20.1)))) else (Out.nx (popInD s20.2.1 s20.1))).bind fun (s96 : D) => ((((Rs.nx s96).bind fun x98 => (Rs.nx s20.1).bind fun x99 => (at? x99).bind fun x99 => Rs.nx (.tup [x98, x99])).bind (full? 3)).to Out.rt)))))))))
def f_law_number_or (a_number a_low : D) : Out Unit Unit := ((((Rs.nx a_number).bind fun x1 => (Rs.nx a_low).bind fun x2 => ofO (inO x1 x2)).to fun c => if c = true then ((Rs.nx .non).to Out.rt) else (Out.nx ())).bind fun (s3 : Unit) => ((Rs.nx a_number).to Out.rt))
def f_law_holed_by (a_script a_rows : D) : Out Unit Unit := ((((Rs.nx [] : Rs (List D))).bind lstD).to fun numbers1 => (((Rs.nx a_rows).to fun a37 => (seqD a37).to fun ds38 => forL (fun (d2 : D) (s3 : D) => (((Rs.nx s3).bind fun x5 => (Rs.nx d2).bind fun x6 => catD x5 x6).to fun numbers4 => (Out.nx numbers4))) ds38 numbers1).bind fun (s7 : D) => ((((Rs.nx s7).bind fun x9 => sortedD [x9]).bind fun x18 => (Rs.nx none).bind fun l19 => (((Rs.nx a_script).bind fun x13 => (Rs.nx (.int 200)).bind fun x14 => (((Rs.nx s7).bind fun x10 => lenD [x10]).bind fun x11 => (Rs.nx (.int 1)).bind fun x12 => intD (· + ·) x11 x12).bind fun x15 => callN (f_law_drawn x13 x14 x15)).bind fun x16 => (asI x16).bind fun i17 => Rs.nx (some i17)).bind fun h20 => cutD x18 l19 h20).to fun low8 => (((((Rs.nx a_script).bind fun x21 => (Rs.nx (.int 201)).bind fun x22 => (Rs.nx (.int 2)).bind fun x23 => callN (f_law_drawn x21 x22 x23)).bind fun x24 => (Rs.nx (.int 1)).bind fun x25 => ofO (eqO x24 x25)).to fun c => if c = true then (((Rs.nx low8).bind fun x30 => (Rs.nx none).bind fun l31 => ((Rs.nx (.int 4)).bind fun x28 => (asI x28).bind fun i29 => Rs.nx (some i29)).bind fun h32 => cutD x30 l31 h32).to fun low27 => (Out.nx low27)) else (Out.nx low8)).bind fun (s26 : D) => (((Rs.nx a_rows).bind (compS yes fun d33 => ((Rs.nx d33).bind (compS yes fun d34 => (((Rs.nx d34).bind fun x35 => (Rs.nx s26).bind fun x36 => callN (f_law_number_or x35 x36)).bind at?))))).to Out.rt)))))
def f_law_holes (a_row : D) : Out Unit Unit := ((((Rs.nx a_row).bind (compS (fun d1 => ((Rs.nx d1).bind fun x2 => (Rs.nx .non).bind fun x3 => ofO (isO x2 x3))) fun d1 => ((Rs.nx d1).bind at?))).bind fun x4 => lenD [x4]).to Out.rt)
def f_law_inner (a_rows : D) : Out Unit Unit := ((((Rs.nx [] : Rs (List D))).bind lstD).to fun found1 => (((((Rs.nx a_rows).bind fun x2 => lenD [x2]).bind fun x3 => Rs.nx [x3]).to fun a30 => (rngD1 a30).to fun ds31 => forL (fun (d4 : D) (s5 : D) => (((((Rs.nx a_rows).bind fun x7 => (Rs.nx d4).bind fun x8 => ixD x7 x8).bind fun x9 => callN (f_law_holes x9)).bind at?).to fun many6 => (((((Rs.nx many6).bind fun x23 => (Rs.nx (.int 0)).bind fun x24 => ofO (gtO x23 x24)).bind fun c25 => if c25 = true then ((((Rs.nx d4).bind fun x17 => (Rs.nx (.int 1)).bind fun x18 => intD (· + ·) x17 x18).bind fun x20 => ((Rs.nx a_rows).bind fun x19 => lenD [x19]).bind fun x21 => ofO (eqO x20 x21)).bind fun c22 => if c22 = true then Rs.nx true else ((((Rs.nx a_rows).bind fun x12 => ((Rs.nx d4).bind fun x10 => (Rs.nx (.int 1)).bind fun x11 => intD (· + ·) x10 x11).bind fun x13 => ixD x12 x13).bind fun x14 => callN (f_law_holes x14)).bind fun x15 => (Rs.nx many6).bind fun x16 => ofO (ltO x15 x16))) else Rs.nx false).to fun c => if c = true then ((Rs.nx none).to fun j27 => (opD j27 appL s5 ((Rs.nx d4).bind at?)).to fun found28 => (Out.nx found28)) else (Out.nx s5)).bind fun (s26 : D) => (Out.nx s26)))) ds31 found1).bind fun (s29 : D) => (((Rs.nx s29).bind (full? 1)).to Out.rt)))
def f_law_slid (a_rows a_at : D) : Out Unit Unit := (((Rs.nx a_rows).bind (compS yes fun d2 => ((Rs.nx d2).bind fun x3 => listD [x3]))).to fun made1 => (((((Rs.nx made1).bind fun x5 => (Rs.nx a_at).bind fun x6 => ixD x5 x6).bind fun x7 => callN (f_law_holes x7)).bind fun x8 => (Rs.nx (.int 1)).bind fun x9 => intD (· - ·) x8 x9).to fun j4 => ((whileF (fun s10 : D × D × D => ((Rs.nx (.bl true)).bind asB)) (fun s11 : D × D × D => ((((Rs.nx s11.2.1).bind fun x14 => (Rs.nx s11.1).bind fun x15 => ixD x14 x15).bind fun x24 => (((Rs.nx s11.2.2).bind fun x16 => (Rs.nx (.int 1)).bind fun x17 => intD (· + ·) x16 x17).bind fun x18 => (asI x18).bind fun i19 => Rs.nx (some i19)).bind fun l25 => (((Rs.nx s11.2.2).bind fun x20 => (Rs.nx (.int 2)).bind fun x21 => intD (· + ·) x20 x21).bind fun x22 => (asI x22).bind fun i23 => Rs.nx (some i23)).bind fun h26 => cutD x24 l25 h26).to fun right13 => ((((Rs.nx [] : Rs (List D))).bind lstD).to fun below27 => (((((Rs.nx s11.1).bind fun x28 => (Rs.nx (.int 1)).bind fun x29 => intD (· + ·) x28 x29).bind fun x31 => ((Rs.nx s11.2.1).bind fun x30 => lenD [x30]).bind fun x32 => ofO (ltO x31 x32)).to fun c => if c = true then ((((Rs.nx s11.2.1).bind fun x37 => ((Rs.nx s11.1).bind fun x35 => (Rs.nx (.int 1)).bind fun x36 => intD (· + ·) x35 x36).bind fun x38 => ixD x37 x38).bind fun x45 => ((Rs.nx s11.2.2).bind fun x39 => (asI x39).bind fun i40 => Rs.nx (some i40)).bind fun l46 => (((Rs.nx s11.2.2).bind fun x41 => (Rs.nx (.int 1)).bind fun x42 => intD (· + ·) x41 x42).bind fun x43 => (asI x43).bind fun i44 => Rs.nx (some i44)).bind fun h47 => cutD x45 l46 h47).to fun below34 => (Out.nx below34)) else (Out.nx below27)).bind fun (s33 : D) => ((((((Rs.nx right13).bind fun x48 => lenD [x48]).bind fun x50 => ((Rs.nx s33).bind fun x49 => lenD [x49]).bind fun x51 => intD (· + ·) x50 x51).bind fun x52 => (Rs.nx (.int 0)).bind fun x53 => ofO (eqO x52 x53)).to fun c => if c = true then ((((Rs.nx s11.2.1).bind fun x55 => (Rs.nx s11.1).bind fun x56 => ixD x55 x56).bind fun x59 => (Rs.nx none).bind fun l60 => ((Rs.nx s11.2.2).bind fun x57 => (asI x57).bind fun i58 => Rs.nx (some i58)).bind fun h61 => cutD x59 l60 h61).to fun x62 => (Rs.nx none).to fun j63 => (Rs.nx s11.1).to fun x64 => (edD j63 (setL x64 x62) s11.2.1).to fun made65 => ((((filtD (fun d66 => (((Rs.nx d66).bind fun x67 => lenD [x67]).bind fun x68 => (Rs.nx (.int 0)).bind fun x69 => ofO (gtO x68 x69))) made65).bind fun x70 => (Rs.nx s11.1).bind fun x71 => (at? x71).bind fun x71 => Rs.nx (.tup [x70, x71])).bind (full? 3)).to Out.rt)) else (Out.nx s11.2.1)).bind fun (s54 : D) => ((((((Rs.nx right13).bind fun x82 => lenD [x82]).bind fun x83 => (Rs.nx (.int 0)).bind fun x84 => ofO (eqO x83 x84)).bind fun c85 => if c85 = true then Rs.nx true else ((((Rs.nx s33).bind fun x78 => lenD [x78]).bind fun x79 => (Rs.nx (.int 0)).bind fun x80 => ofO (gtO x79 x80)).bind fun c81 => if c81 = true then (((Rs.nx s33).bind fun x72 => (Rs.nx (.int 0)).bind fun x73 => ixD x72 x73).bind fun x76 => ((Rs.nx right13).bind fun x74 => (Rs.nx (.int 0)).bind fun x75 => ixD x74 x75).bind fun x77 => ofO (ltO x76 x77)) else Rs.nx false)).to fun c => if c = true then ((((Rs.nx s33).bind fun x87 => (Rs.nx (.int 0)).bind fun x88 => ixD x87 x88).bind at?).to fun x91 => ((Rs.nx s11.1).bind fun x89 => (idxD s54 x89).bind fun j90 => Rs.nx (some j90)).to fun j92 => (Rs.nx s11.2.2).to fun x93 => (edD j92 (setL x93 x91) s54).to fun made94 => (((Rs.nx s11.1).bind fun x96 => (Rs.nx (.int 1)).bind fun x97 => intD (· + ·) x96 x97).to fun v_at95 => (Out.nx (v_at95, made94, s11.2.2)))) else ((((Rs.nx right13).bind fun x98 => (Rs.nx (.int 0)).bind fun x99 => ixD x98 x99).bind at?).to fun x102 => ((Rs.nx s11.1).bind fun x100 => (idxD s54 x100).bind fun j101 => Rs.nx (some j101)).to fun j103 => (Rs.nx s11.2.2).to fun x104 => (edD j103 (setL x104 x102) s54).to fun made105 => (((Rs.nx s11.2.2).bind fun x107 => (Rs.nx (.int 1)).bind fun x108 => intD (· + ·) x107 x108).to fun j106 => (Out.nx (s11.1, made105, j106))))).bind fun (s86 : D × D × D) => (Out.nx (s86.1, s86.2.1, s86.2.2)))))))) 1000 (a_at, made1, j4)).bind fun (s12 : D × D × D) => (Out.nx ()))))
def f_law_k16 (a_script : D) : Out Unit Unit := (((Rs.nx a_script).bind fun x7 => ((((Rs.nx a_script).bind fun x2 => (Rs.nx (.int 40)).bind fun x3 => callN (f_law_row_by x2 x3)).bind fun x4 => callN (f_law_laid x4)).bind fun x5 => (Rs.nx (.int 0)).bind fun x6 => ixD x5 x6).bind fun x8 => callN (f_law_holed_by x7 x8)).to fun rows1 => ((((((Rs.nx rows1).bind (compS yes fun d9 => ((Rs.nx d9).bind fun x10 => listD [x10]))).bind fun x11 => callN (f_is_holed x11)).bind fun x12 => (Rs.nx (.bl true)).bind fun x13 => ofO (isntB x12 x13)).to fun c => if c = true then ((Rs.nx (.bl false)).to Out.rt) else (Out.nx ())).bind fun (s14 : Unit) => (((Rs.nx rows1).bind fun x16 => callN (f_law_inner x16)).to fun inner15 => (((((Rs.nx inner15).bind fun x17 => lenD [x17]).bind fun x18 => (Rs.nx (.int 0)).bind fun x19 => ofO (eqO x18 x19)).to fun c => if c = true then ((Rs.nx (.bl true)).to Out.rt) else (Out.nx ())).bind fun (s20 : Unit) => ((((Rs.nx inner15).bind fun x26 => ((Rs.nx a_script).bind fun x23 => (Rs.nx (.int 400)).bind fun x24 => ((Rs.nx inner15).bind fun x22 => lenD [x22]).bind fun x25 => callN (f_law_drawn x23 x24 x25)).bind fun x27 => ixD x26 x27).bind at?).to fun v_at21 => (((Rs.nx rows1).bind fun x29 => (Rs.nx v_at21).bind fun x30 => callN (f_law_slid x29 x30)).to fun due28 => (((Rs.nx rows1).bind (compS yes fun d32 => ((Rs.nx d32).bind fun x33 => listD [x33]))).to fun handed31 => (((Rs.nx handed31).bind fun x35 => (Rs.nx v_at21).bind fun x36 => callX (f_slide x35 x36)).to fun found34 => (((((((Rs.nx found34).bind fun x44 => ofB (isiO "tuple" x44)).bind asB).bind fun c45 => Rs.nx (!c45)).bind fun c46 => if c46 = true then Rs.nx true else ((((Rs.nx found34).bind fun x40 => lenD [x40]).bind fun x41 => (Rs.nx (.int 2)).bind fun x42 => ofO (neO x41 x42)).bind fun c43 => if c43 = true then Rs.nx true else ((((Rs.nx handed31).bind fun x37 => (Rs.nx rows1).bind fun x38 => callN (f_law_rows x37 x38)).bind asB).bind fun c39 => Rs.nx (!c39)))).to fun c => if c = true then ((Rs.nx (.bl false)).to Out.rt) else (Out.nx ())).bind fun (s47 : Unit) => ((((((((Rs.nx found34).bind fun x59 => (Rs.nx (.int 0)).bind fun x60 => ixD x59 x60).bind fun x63 => ((Rs.nx due28).bind fun x61 => (Rs.nx (.int 0)).bind fun x62 => ixD x61 x62).bind fun x64 => callN (f_law_rows x63 x64)).bind asB).bind fun c65 => Rs.nx (!c65)).bind fun c66 => if c66 = true then Rs.nx true else ((((((Rs.nx found34).bind fun x54 => (Rs.nx (.int 1)).bind fun x55 => ixD x54 x55).bind fun x56 => callN (f_law_whole x56)).bind asB).bind fun c57 => Rs.nx (!c57)).bind fun c58 => if c58 = true then Rs.nx true else (((Rs.nx found34).bind fun x48 => (Rs.nx (.int 1)).bind fun x49 => ixD x48 x49).bind fun x52 => ((Rs.nx due28).bind fun x50 => (Rs.nx (.int 1)).bind fun x51 => ixD x50 x51).bind fun x53 => ofO (neO x52 x53)))).to fun c => if c = true then ((Rs.nx (.bl false)).to Out.rt) else (Out.nx ())).bind fun (s67 : Unit) => ((itemAt 0 found34).to fun d70 => (appAllD d70).to fun u71 => (((Rs.nx handed31).bind fun x68 => (Rs.nx rows1).bind fun x69 => callN (f_law_rows x68 x69)).to Out.rt))))))))))))
def f_emptied (a_rows : D) : Out Unit Unit := ((((((Rs.nx a_rows).bind fun x1 => callN (f_is_holed x1)).bind asB).bind fun c2 => Rs.nx (!c2)).to fun c => if c = true then (Out.exc "NoStairs") else (Out.nx ())).bind fun (s3 : Unit) => ((whileF (fun s4 : D => ((((Rs.nx s4).bind fun x13 => lenD [x13]).bind fun x14 => (Rs.nx (.int 0)).bind fun x15 => ofO (gtO x14 x15)).bind fun c16 => if c16 = true then ((((Rs.nx s4).bind fun x7 => (Rs.nx (.int 0)).bind fun x8 => ixD x7 x8).bind fun x9 => (Rs.nx (.int 0)).bind fun x10 => ixD x9 x10).bind fun x11 => (Rs.nx .non).bind fun x12 => ofO (isO x11 x12)) else Rs.nx false)) (fun s5 : D => ((Rs.nx (.int 0)).to fun v_at17 => ((whileF (fun s18 : D => ((((Rs.nx s5).bind fun x21 => (Rs.nx s18).bind fun x22 => callN (f_is_inner x21 x22)).bind asB).bind fun c23 => Rs.nx (!c23))) (fun s19 : D => (((Rs.nx s19).bind fun x25 => (Rs.nx (.int 1)).bind fun x26 => intD (· + ·) x25 x26).to fun v_at24 => (Out.nx v_at24))) 1000 v_at17).bind fun (s20 : D) => ((((Rs.nx s5).bind fun x28 => (Rs.nx s20).bind fun x29 => callX (f_slide x28 x29)).bind (itemAt 0)).to fun rows27 => (Out.nx rows27))))) 1000 a_rows).bind fun (s6 : D) => (((Rs.nx s6).bind (compS yes fun d30 => ((Rs.nx d30).bind fun x31 => listD [x31]))).to Out.rt)))
def f_evacuated (a_rows : D) : Out Unit Unit := (((((((Rs.nx a_rows).bind fun x11 => callN (f_is_holed x11)).bind asB).bind fun c12 => Rs.nx (!c12)).bind fun c13 => if c13 = true then Rs.nx true else ((((Rs.nx a_rows).bind fun x7 => lenD [x7]).bind fun x8 => (Rs.nx (.int 0)).bind fun x9 => ofO (gtO x8 x9)).bind fun c10 => if c10 = true then ((((Rs.nx a_rows).bind fun x1 => (Rs.nx (.int 0)).bind fun x2 => ixD x1 x2).bind fun x3 => (Rs.nx (.int 0)).bind fun x4 => ixD x3 x4).bind fun x5 => (Rs.nx .non).bind fun x6 => ofO (isO x5 x6)) else Rs.nx false)).to fun c => if c = true then (Out.exc "NoStairs") else (Out.nx ())).bind fun (s14 : Unit) => ((((Rs.nx [] : Rs (List D))).bind lstD).to fun numbers15 => (((Rs.nx a_rows).to fun a75 => (seqD a75).to fun ds76 => forL (fun (d16 : D) (s17 : D) => ((Rs.nx none).to fun j18 => (extD j18 s17 (Rs.nx d16)).to fun numbers19 => (Out.nx numbers19))) ds76 numbers15).bind fun (s20 : D) => (((((Rs.nx s20).bind fun x21 => sortedD [x21]).bind fun x28 => ((((Rs.nx s20).bind fun x23 => lenD [x23]).bind fun x24 => Rs.nx [x24]).bind fun a27 => (rng1 a27).bind (compRg yes fun d22 => ((Rs.nx d22).bind fun x25 => (Rs.nx (.int 1)).bind fun x26 => intD (· + ·) x25 x26))).bind fun x29 => ofO (neO x28 x29)).to fun c => if c = true then (Out.exc "NoStairs") else (Out.nx ())).bind fun (s30 : Unit) => (((Rs.nx a_rows).bind (compS yes fun d32 => ((Rs.nx d32).bind (compS yes fun d33 => (Rs.nx (.int 0)))))).to fun made31 => ((Rs.nx a_rows).to fun left34 => (((((Rs.nx s20).bind fun x35 => lenD [x35]).bind fun x37 => (Rs.nx (.int 0)).bind fun x38 => ((Rs.nx (.int 1)).bind fun x36 => negD x36).bind fun x39 => Rs.nx [x37, x38, x39]).to fun a73 => (rngD3 a73).to fun ds74 => forL (fun (d40 : D) (s41 : D × D) => (((Rs.nx s41.2).bind (compS yes fun d43 => ((Rs.nx d43).bind fun x44 => listD [x44]))).to fun holed42 => ((Rs.nx .non).to fun x47 => ((Rs.nx (.int 0)).bind fun x45 => (idxD holed42 x45).bind fun j46 => Rs.nx (some j46)).to fun j48 => (Rs.nx (.int 0)).to fun x49 => (edD j48 (setL x49 x47) holed42).to fun holed50 => (((Rs.nx holed50).bind fun x52 => (Rs.nx (.int 0)).bind fun x53 => callX (f_slide x52 x53)).to fun out51 => (((Rs.nx d40).bind at?).to fun x65 => (((Rs.nx out51).bind fun x54 => (Rs.nx (.int 1)).bind fun x55 => ixD x54 x55).bind fun x56 => (idxD s41.1 x56).bind fun j57 => Rs.nx (some j57)).to fun j66 => ((((Rs.nx s41.2).bind fun x60 => ((Rs.nx out51).bind fun x58 => (Rs.nx (.int 1)).bind fun x59 => ixD x58 x59).bind fun x61 => ixD x60 x61).bind fun x62 => lenD [x62]).bind fun x63 => (Rs.nx (.int 1)).bind fun x64 => intD (· - ·) x63 x64).to fun x67 => (edD j66 (setL x67 x65) s41.1).to fun made68 => (((Rs.nx out51).bind fun x70 => (Rs.nx (.int 0)).bind fun x71 => ixD x70 x71).to fun left69 => (Out.nx (made68, left69)))))))) ds74 (made31, left34)).bind fun (s72 : D × D) => (((Rs.nx s72.1).bind (full? 2)).to Out.rt))))))))
def f_law_spoilt_k17 (a_script a_rows : D) : Out Unit D := ((((Rs.nx a_script).bind fun x2 => (Rs.nx (.int 400)).bind fun x3 => (Rs.nx (.int 8)).bind fun x4 => callN (f_law_drawn x2 x3 x4)).bind at?).to fun way1 => ((((Rs.nx a_script).bind fun x7 => (Rs.nx (.int 401)).bind fun x8 => ((Rs.nx (unpin a_rows)).bind fun x6 => lenD [x6]).bind fun x9 => callN (f_law_drawn x7 x8 x9)).bind at?).to fun v_at5 => ((((Rs.nx a_script).bind fun x14 => (Rs.nx (.int 402)).bind fun x15 => (((Rs.nx (unpin a_rows)).bind fun x11 => (Rs.nx v_at5).bind fun x12 => ixD x11 x12).bind fun x13 => lenD [x13]).bind fun x16 => callN (f_law_drawn x14 x15 x16)).bind at?).to fun j10 => ((((Rs.nx a_script).bind fun x19 => (Rs.nx (.int 403)).bind fun x20 => ((Rs.nx (unpin a_rows)).bind fun x18 => lenD [x18]).bind fun x21 => callN (f_law_drawn x19 x20 x21)).bind at?).to fun other17 => ((((Rs.nx way1).bind fun x22 => (Rs.nx (.int 0)).bind fun x23 => ofO (eqO x22 x23)).to fun c => if c = true then ((((Rs.nx a_script).bind fun x25 => (Rs.nx (.int 404)).bind fun x26 => (Rs.nx (.int 2001)).bind fun x27 => callN (f_law_drawn x25 x26 x27)).bind fun x28 => (Rs.nx (.int 1000)).bind fun x29 => intD (· - ·) x28 x29).to fun x32 => ((Rs.nx v_at5).bind fun x30 => (idxD a_rows x30).bind fun j31 => Rs.nx (some j31)).to fun j33 => (Rs.nx j10).to fun x34 => (edD j33 (setL x34 x32) a_rows).to fun rows35 => (Out.nx rows35)) else (Out.nx a_rows)).bind fun (s24 : D) => ((((Rs.nx way1).bind fun x36 => (Rs.nx (.int 1)).bind fun x37 => ofO (eqO x36 x37)).to fun c => if c = true then ((Rs.nx .non).to fun x41 => ((Rs.nx v_at5).bind fun x39 => (idxD s24 x39).bind fun j40 => Rs.nx (some j40)).to fun j42 => (Rs.nx j10).to fun x43 => (edD j42 (setL x43 x41) s24).to fun rows44 => (Out.nx rows44)) else (Out.nx s24)).bind fun (s38 : D) => ((((Rs.nx way1).bind fun x45 => (Rs.nx (.int 2)).bind fun x46 => ofO (eqO x45 x46)).to fun c => if c = true then ((insP s38 (popAtD s38 v_at5) (Rs.nx other17) (itemOf s38 v_at5)).to fun rows49 => (Out.nx rows49)) else (Out.nx s38)).bind fun (s47 : D) => ((((Rs.nx way1).bind fun x50 => (Rs.nx (.int 3)).bind fun x51 => ofO (eqO x50 x51)).to fun c => if c = true then ((Rs.nx none).to fun j53 => (insD j53 s47 (Rs.nx v_at5) (((Rs.nx [] : Rs (List D))).bind lstD)).to fun rows54 => (Out.nx rows54)) else (Out.nx s47)).bind fun (s52 : D) => ((((Rs.nx way1).bind fun x55 => (Rs.nx (.int 4)).bind fun x56 => ofO (eqO x55 x56)).to fun c => if c = true then (((Rs.nx v_at5).bind fun x58 => (idxD s52 x58).bind fun j59 => Rs.nx (some j59)).to fun j60 => (insD j60 s52 (Rs.nx (.int 0)) (Rs.nx .non)).to fun rows61 => (Out.nx rows61)) else (Out.nx s52)).bind fun (s57 : D) => ((((Rs.nx way1).bind fun x62 => (Rs.nx (.int 5)).bind fun x63 => ofO (eqO x62 x63)).to fun c => if c = true then (((Rs.nx v_at5).bind fun x65 => (idxD s57 x65).bind fun j66 => Rs.nx (some j66)).to fun j67 => (opD j67 appL s57 ((((Rs.nx (unpin s57)).bind fun x69 => (Rs.nx v_at5).bind fun x70 => ixD x69 x70).bind fun x71 => (Rs.nx j10).bind fun x72 => ixD x71 x72).bind at?)).to fun rows68 => (Out.nx rows68)) else (Out.nx s57)).bind fun (s64 : D) => (Out.nx s64)))))))))))
def f_law_good_k17 (a_rows : D) : Out Unit Unit := ((((Rs.nx [] : Rs (List D))).bind lstD).to fun seen1 => (((((Rs.nx a_rows).bind fun x2 => lenD [x2]).bind fun x3 => Rs.nx [x3]).to fun a94 => (rngD1 a94).to fun ds95 => forL (fun (d4 : D) (s5 : D) => (((Rs.nx a_rows).bind fun x7 => (Rs.nx d4).bind fun x8 => ixD x7 x8).to fun row6 => ((((((Rs.nx row6).bind fun x20 => lenD [x20]).bind fun x21 => (Rs.nx (.int 0)).bind fun x22 => ofO (eqO x21 x22)).bind fun c23 => if c23 = true then Rs.nx true else (((Rs.nx d4).bind fun x17 => (Rs.nx (.int 0)).bind fun x18 => ofO (gtO x17 x18)).bind fun c19 => if c19 = true then (((Rs.nx row6).bind fun x9 => lenD [x9]).bind fun x15 => (((Rs.nx a_rows).bind fun x12 => ((Rs.nx d4).bind fun x10 => (Rs.nx (.int 1)).bind fun x11 => intD (· - ·) x10 x11).bind fun x13 => ixD x12 x13).bind fun x14 => lenD [x14]).bind fun x16 => ofO (gtO x15 x16)) else Rs.nx false)).to fun c => if c = true then ((Rs.nx (.bl false)).to Out.rt) else (Out.nx ())).bind fun (s24 : Unit) => (((((Rs.nx row6).bind fun x25 => lenD [x25]).bind fun x26 => Rs.nx [x26]).to fun a91 => (rngD1 a91).to fun ds92 => forL (fun (d27 : D) (s28 : D) => (((Rs.nx row6).bind fun x32 => (Rs.nx none).bind fun l33 => ((Rs.nx d27).bind fun x30 => (asI x30).bind fun i31 => Rs.nx (some i31)).bind fun h34 => cutD x32 l33 h34).to fun left29 => ((((Rs.nx a_rows).bind fun x39 => (Rs.nx none).bind fun l40 => ((Rs.nx d4).bind fun x37 => (asI x37).bind fun i38 => Rs.nx (some i38)).bind fun h41 => cutRD x39 l40 h41).bind (compS yes fun d36 => (((Rs.nx d36).bind fun x42 => (Rs.nx d27).bind fun x43 => ixD x42 x43).bind at?))).to fun above35 => (((((Rs.nx row6).bind fun x44 => (Rs.nx d27).bind fun x45 => ixD x44 x45).bind fun x46 => (Rs.nx .non).bind fun x47 => ofO (isO x46 x47)).to fun c => if c = true then ((((((Rs.nx left29).bind fun x53 => lenD [x53]).bind fun x55 => ((Rs.nx left29).bind fun x54 => callN (f_law_holes x54)).bind fun x56 => ofO (gtO x55 x56)).bind fun c57 => if c57 = true then Rs.nx true else (((Rs.nx above35).bind fun x49 => lenD [x49]).bind fun x51 => ((Rs.nx above35).bind fun x50 => callN (f_law_holes x50)).bind fun x52 => ofO (gtO x51 x52))).to fun c => if c = true then ((Rs.nx (.bl false)).to Out.rt) else (Out.nx ())).bind fun (s58 : Unit) => (Out.nx s28)) else ((((Rs.nx left29).bind fun x61 => (Rs.nx above35).bind fun x62 => catD x61 x62).bind (compS (fun d60 => ((Rs.nx d60).bind fun x63 => (Rs.nx .non).bind fun x64 => ofO (isntO x63 x64))) fun d60 => ((Rs.nx d60).bind at?))).to fun less59 => ((((((Rs.nx row6).bind fun x80 => (Rs.nx d27).bind fun x81 => ixD x80 x81).bind fun x82 => (Rs.nx s28).bind fun x83 => ofO (inO x82 x83)).bind fun c84 => if c84 = true then Rs.nx true else (((((Rs.nx less59).bind fun x72 => ((((Rs.nx row6).bind fun x69 => (Rs.nx d27).bind fun x70 => ixD x69 x70).bind fun x71 => Rs.nx [x71]).bind lstD).bind fun x73 => catD x72 x73).bind fun x74 => maxD [x74]).bind fun x77 => ((Rs.nx row6).bind fun x75 => (Rs.nx d27).bind fun x76 => ixD x75 x76).bind fun x78 => ofO (neO x77 x78)).bind fun c79 => if c79 = true then Rs.nx true else (((Rs.nx row6).bind fun x65 => (Rs.nx d27).bind fun x66 => ixD x65 x66).bind fun x67 => (Rs.nx less59).bind fun x68 => ofO (inO x67 x68)))).to fun c => if c = true then ((Rs.nx (.bl false)).to Out.rt) else (Out.nx ())).bind fun (s85 : Unit) => ((Rs.nx none).to fun j86 => (opD j86 appL s28 (((Rs.nx row6).bind fun x88 => (Rs.nx d27).bind fun x89 => ixD x88 x89).bind at?)).to fun seen87 => (Out.nx seen87))))).bind fun (s48 : D) => (Out.nx s48))))) ds92 s5).bind fun (s90 : D) => (Out.nx s90))))) ds95 seen1).bind fun (s93 : D) => ((Rs.nx (.bl true)).to Out.rt)))
def f_law_marks_k17 (a_rows a_at a_way : D) : Out Unit Unit := ((tryD ["NoStairs", "NoPair", "NoPlace", "NoShape", "NoNote"] ((((Rs.nx a_way).bind fun x1 => (Rs.nx (.int 0)).bind fun x2 => ofO (eqO x1 x2)).to fun c => if c = true then (((Rs.nx a_rows).bind fun x4 => (Rs.nx a_at).bind fun x5 => callX (f_slide x4 x5)).to fun x6 => (Out.nx ())) else ((((Rs.nx a_way).bind fun x7 => (Rs.nx (.int 1)).bind fun x8 => ofO (eqO x7 x8)).to fun c => if c = true then (((Rs.nx a_rows).bind fun x10 => callX (f_emptied x10)).to fun x11 => (Out.nx ())) else (((Rs.nx a_rows).bind fun x12 => callX (f_evacuated x12)).to fun x13 => (Out.nx ()))).bind fun (s9 : Unit) => (Out.nx ()))).bind fun (s3 : Unit) => (Out.nx ())) (fun n14 => ((((Rs.nx (.bl (decide (("NoStairs" : Str) = n14)))).bind fun x26 => ((Rs.nx (.bl (decide (("NoPlace" : Str) = n14)))).bind fun x24 => ((Rs.nx (.bl true)).bind fun x22 => ((Rs.nx (.bl (decide (("NoPair" : Str) = n14)))).bind fun x20 => ((Rs.nx [] : Rs (List D))).bind fun x21 => Rs.nx (x20 :: x21)).bind fun x23 => Rs.nx (x22 :: x23)).bind fun x25 => Rs.nx (x24 :: x25)).bind fun x27 => Rs.nx (x26 :: x27)).bind lstD).to fun found15 => (((Rs.nx found15).bind fun x30 => (((Rs.nx (.bl (decide (("NoShape" : Str) = n14)))).bind fun x28 => (Rs.nx (.bl (decide (("NoNote" : Str) = n14)))).bind fun x29 => Rs.nx [x28, x29]).bind lstD).bind fun x31 => catD x30 x31).to Out.rt)))).bind fun (s32 : Unit) => ((((Rs.nx [] : Rs (List D))).bind lstD).to Out.rt))
noncomputable def f_law_k17 (a_script : D) : Out Unit Unit := (((Rs.nx a_script).bind fun x2 => (Rs.nx (.int 9)).bind fun x3 => callN (f_law_row_by x2 x3)).to fun row1 => (((((Rs.nx row1).bind fun x4 => lenD [x4]).bind fun x5 => (Rs.nx (.int 0)).bind fun x6 => ofO (eqO x5 x6)).to fun c => if c = true then ((((((Rs.nx a_script).bind fun x9 => (Rs.nx (.int 405)).bind fun x10 => (Rs.nx (.int 9)).bind fun x11 => callN (f_law_drawn x9 x10 x11)).bind at?).bind fun x12 => Rs.nx [x12]).bind lstD).to fun row8 => (Out.nx row8)) else (Out.nx row1)).bind fun (s7 : D) => (((Rs.nx a_script).bind fun x17 => (((Rs.nx s7).bind fun x14 => callN (f_law_laid x14)).bind fun x15 => (Rs.nx (.int 0)).bind fun x16 => ixD x15 x16).bind fun x18 => callN (f_law_holed_by x17 x18)).to fun rows13 => ((callIO 1 (fun x117 => f_law_spoilt_k17 a_script x117) rows13).to fun rows19 => ((((Rs.nx a_script).bind fun x24 => (Rs.nx (.int 406)).bind fun x25 => (((Rs.nx rows19).bind fun x21 => lenD [x21]).bind fun x22 => (Rs.nx (.int 4)).bind fun x23 => intD (· + ·) x22 x23).bind fun x26 => callN (f_law_drawn x24 x25 x26)).bind fun x27 => (Rs.nx (.int 2)).bind fun x28 => intD (· - ·) x27 x28).to fun v_at20 => ((((Rs.nx rows19).bind fun x30 => callN (f_law_good_k17 x30)).bind at?).to fun good29 => (((Rs.nx rows19).bind (compS yes fun d32 => ((Rs.nx d32).bind fun x33 => listD [x33]))).to fun handed31 => ((((Rs.nx handed31).bind fun x35 => callN (f_is_holed x35)).bind at?).to fun found34 => (((((((Rs.nx found34).bind fun x38 => ofB (isiO "bool" x38)).bind asB).bind fun c39 => Rs.nx (!c39)).bind fun c40 => if c40 = true then Rs.nx true else ((Rs.nx found34).bind fun x36 => (Rs.nx good29).bind fun x37 => ofO (neO x36 x37))).to fun c => if c = true then ((Rs.nx (.bl false)).to Out.rt) else (Out.nx ())).bind fun (s41 : Unit) => ((((Rs.nx (.bl true)).bind fun x59 => ((Rs.nx (.bl false)).bind fun x57 => ((Rs.nx (.bl true)).bind fun x55 => ((Rs.nx (.bl false)).bind fun x53 => ((Rs.nx (.bl false)).bind fun x51 => ((Rs.nx (.bl false)).bind fun x49 => ((Rs.nx [] : Rs (List D))).bind fun x50 => Rs.nx (x49 :: x50)).bind fun x52 => Rs.nx (x51 :: x52)).bind fun x54 => Rs.nx (x53 :: x54)).bind fun x56 => Rs.nx (x55 :: x56)).bind fun x58 => Rs.nx (x57 :: x58)).bind fun x60 => Rs.nx (x59 :: x60)).bind lstD).to fun none42 => ((((Rs.nx [] : Rs (List D))).bind lstD).to fun due61 => (((((Rs.nx good29).bind asB).bind fun c62 => Rs.nx (!c62)).to fun c => if c = true then ((Rs.nx none42).to fun due64 => (Out.nx due64)) else ((((Rs.nx v_at20).bind fun x66 => ((Rs.nx rows19).bind fun x65 => callN (f_law_inner x65)).bind fun x67 => ofO (ninO x66 x67)).to fun c => if c = true then ((((Rs.nx (.bl false)).bind fun x86 => ((Rs.nx (.bl true)).bind fun x84 => ((Rs.nx (.bl true)).bind fun x82 => ((Rs.nx (.bl false)).bind fun x80 => ((Rs.nx (.bl false)).bind fun x78 => ((Rs.nx (.bl false)).bind fun x76 => ((Rs.nx [] : Rs (List D))).bind fun x77 => Rs.nx (x76 :: x77)).bind fun x79 => Rs.nx (x78 :: x79)).bind fun x81 => Rs.nx (x80 :: x81)).bind fun x83 => Rs.nx (x82 :: x83)).bind fun x85 => Rs.nx (x84 :: x85)).bind fun x87 => Rs.nx (x86 :: x87)).bind lstD).to fun due69 => (Out.nx due69)) else (Out.nx due61)).bind fun (s68 : D) => (Out.nx s68))).bind fun (s63 : D) => ((((((Rs.nx handed31).bind fun x90 => (Rs.nx v_at20).bind fun x91 => (Rs.nx (.int 0)).bind fun x92 => callN (f_law_marks_k17 x90 x91 x92)).bind fun x93 => (Rs.nx s63).bind fun x94 => ofO (neO x93 x94)).bind fun c95 => if c95 = true then Rs.nx true else ((Rs.nx handed31).bind fun x88 => (Rs.nx rows19).bind fun x89 => ofO (neO x88 x89))).to fun c => if c = true then ((Rs.nx (.bl false)).to Out.rt) else (Out.nx ())).bind fun (s96 : Unit) => ((((Rs.nx good29).bind asB).to fun c => if c = true then (((((Rs.nx handed31).bind fun x100 => (Rs.nx v_at20).bind fun x101 => (Rs.nx (.int 1)).bind fun x102 => callN (f_law_marks_k17 x100 x101 x102)).bind fun x103 => (((Rs.nx [] : Rs (List D))).bind lstD).bind fun x104 => ofB (eqO x103 x104)).bind fun x105 => andD x105 ((Rs.nx handed31).bind fun x98 => (Rs.nx rows19).bind fun x99 => ofB (eqO x98 x99))).to Out.rt) else (Out.nx ())).bind fun (s97 : Unit) => (((((Rs.nx handed31).bind fun x111 => (Rs.nx v_at20).bind fun x112 => (Rs.nx (.int 1)).bind fun x113 => callN (f_law_marks_k17 x111 x112 x113)).bind fun x114 => (Rs.nx none42).bind fun x115 => ofB (eqO x114 x115)).bind fun x116 => andD x116 (((Rs.nx handed31).bind fun x106 => (Rs.nx v_at20).bind fun x107 => (Rs.nx (.int 2)).bind fun x108 => callN (f_law_marks_k17 x106 x107 x108)).bind fun x109 => (Rs.nx none42).bind fun x110 => ofB (eqO x109 x110))).to Out.rt)))))))))))))))
def f_law_k18 (a_script : D) : Out Unit Unit := (((Rs.nx a_script).bind fun x7 => ((((Rs.nx a_script).bind fun x2 => (Rs.nx (.int 40)).bind fun x3 => callN (f_law_row_by x2 x3)).bind fun x4 => callN (f_law_laid x4)).bind fun x5 => (Rs.nx (.int 0)).bind fun x6 => ixD x5 x6).bind fun x8 => callN (f_law_holed_by x7 x8)).to fun rows1 => ((Rs.nx rows1).to fun due9 => (((Rs.nx due9).bind fun x11 => callN (f_law_inner x11)).to fun inner10 => ((Rs.nx (.int 0)).to fun k12 => ((whileF (fun s13 : D × D × D => (((Rs.nx s13.2.1).bind fun x16 => lenD [x16]).bind fun x17 => (Rs.nx (.int 0)).bind fun x18 => ofO (gtO x17 x18))) (fun s14 : D × D × D => ((((Rs.nx s14.1).bind fun x28 => ((Rs.nx s14.2.1).bind fun x26 => ((Rs.nx a_script).bind fun x23 => ((Rs.nx (.int 400)).bind fun x20 => (Rs.nx s14.2.2).bind fun x21 => intD (· + ·) x20 x21).bind fun x24 => ((Rs.nx s14.2.1).bind fun x22 => lenD [x22]).bind fun x25 => callN (f_law_drawn x23 x24 x25)).bind fun x27 => ixD x26 x27).bind fun x29 => callN (f_law_slid x28 x29)).bind (itemAt 0)).to fun due19 => (((Rs.nx due19).bind fun x31 => callN (f_law_inner x31)).to fun inner30 => (((Rs.nx s14.2.2).bind fun x33 => (Rs.nx (.int 1)).bind fun x34 => intD (· + ·) x33 x34).to fun k32 => (Out.nx (due19, inner30, k32)))))) 1000 (due9, inner10, k12)).bind fun (s15 : D × D × D) => ((((Rs.nx (.int 2)).bind fun x35 => Rs.nx [x35]).to fun a58 => (rngD1 a58).to fun ds59 => forL (fun (d36 : D) (s37 : Unit) => (((Rs.nx rows1).bind (compS yes fun d39 => ((Rs.nx d39).bind fun x40 => listD [x40]))).to fun handed38 => (((Rs.nx handed38).bind fun x42 => callX (f_emptied x42)).to fun found41 => (((((((Rs.nx found41).bind fun x46 => (Rs.nx s15.1).bind fun x47 => callN (f_law_rows x46 x47)).bind asB).bind fun c48 => Rs.nx (!c48)).bind fun c49 => if c49 = true then Rs.nx true else ((((Rs.nx handed38).bind fun x43 => (Rs.nx rows1).bind fun x44 => callN (f_law_rows x43 x44)).bind asB).bind fun c45 => Rs.nx (!c45))).to fun c => if c = true then ((Rs.nx (.bl false)).to Out.rt) else (Out.nx ())).bind fun (s50 : Unit) => ((Rs.nx found41).to fun d55 => (appAllD d55).to fun u56 => ((((((Rs.nx handed38).bind fun x51 => (Rs.nx rows1).bind fun x52 => callN (f_law_rows x51 x52)).bind asB).bind fun c53 => Rs.nx (!c53)).to fun c => if c = true then ((Rs.nx (.bl false)).to Out.rt) else (Out.nx ())).bind fun (s54 : Unit) => (Out.nx ()))))))) ds59 ()).bind fun (s57 : Unit) => ((Rs.nx (.bl true)).to Out.rt)))))))
def f_law_k19 (a_script : D) : Out Unit Unit := (((((Rs.nx a_script).bind fun x2 => (Rs.nx (.int 40)).bind fun x3 => callN (f_law_row_by x2 x3)).bind fun x4 => callN (f_law_laid x4)).bind (itemAt 0)).to fun plain1 => (((Rs.nx a_script).bind fun x6 => (Rs.nx plain1).bind fun x7 => callN (f_law_holed_by x6 x7)).to fun rows5 => ((((Rs.nx [] : Rs (List D))).bind lstD).to fun due8 => (((Rs.nx rows5).to fun a64 => (seqD a64).to fun ds65 => forL (fun (d9 : D) (s10 : D) => ((((Rs.nx d9).bind (compS (fun d12 => ((Rs.nx d12).bind fun x13 => (Rs.nx .non).bind fun x14 => ofO (isntO x13 x14))) fun d12 => ((Rs.nx d12).bind at?))).bind fun x15 => (Rs.nx s10).bind fun x16 => catD x15 x16).to fun due11 => (Out.nx due11))) ds65 due8).bind fun (s17 : D) => ((((Rs.nx rows5).bind (compS yes fun d19 => ((Rs.nx d19).bind fun x20 => listD [x20]))).bind fun x21 => callN (f_reading x21)).to fun found18 => ((((((Rs.nx found18).bind fun x22 => (Rs.nx s17).bind fun x23 => callN (f_law_row x22 x23)).bind asB).bind fun c24 => Rs.nx (!c24)).to fun c => if c = true then ((Rs.nx (.bl false)).to Out.rt) else (Out.nx ())).bind fun (s25 : Unit) => ((((Rs.nx found18).bind fun x27 => listD [x27]).bind fun x28 => callN (f_laid x28)).to fun pair26 => (((((((Rs.nx pair26).bind fun x33 => ofB (isiO "tuple" x33)).bind asB).bind fun c34 => Rs.nx (!c34)).bind fun c35 => if c35 = true then Rs.nx true else (((((Rs.nx pair26).bind fun x29 => (Rs.nx (.int 0)).bind fun x30 => ixD x29 x30).bind fun x31 => ofB (isiO "list" x31)).bind asB).bind fun c32 => Rs.nx (!c32))).to fun c => if c = true then ((Rs.nx (.bl false)).to Out.rt) else (Out.nx ())).bind fun (s36 : Unit) => ((((Rs.nx pair26).bind fun x37 => (Rs.nx (.int 0)).bind fun x38 => ixD x37 x38).to fun a62 => (seqD a62).to fun ds63 => forL (fun (d39 : D) (s40 : Unit) => (((((((Rs.nx d39).bind fun x43 => ofB (isiO "list" x43)).bind asB).bind fun c44 => Rs.nx (!c44)).bind fun c45 => if c45 = true then Rs.nx true else ((Rs.nx .non).bind fun x41 => (Rs.nx d39).bind fun x42 => ofO (inO x41 x42))).to fun c => if c = true then ((Rs.nx (.bl false)).to Out.rt) else (Out.nx ())).bind fun (s46 : Unit) => (Out.nx ()))) ds63 ()).bind fun (s47 : Unit) => ((((((((Rs.nx rows5).bind (compS yes fun d48 => ((Rs.nx d48).bind fun x49 => listD [x49]))).bind fun x50 => callX (f_emptied x50)).bind fun x53 => ((Rs.nx pair26).bind fun x51 => (Rs.nx (.int 0)).bind fun x52 => ixD x51 x52).bind fun x54 => callN (f_law_rows x53 x54)).bind asB).bind fun c55 => Rs.nx (!c55)).to fun c => if c = true then ((Rs.nx (.bl false)).to Out.rt) else (Out.nx ())).bind fun (s56 : Unit) => (((((Rs.nx plain1).bind (compS yes fun d57 => ((Rs.nx d57).bind fun x58 => listD [x58]))).bind fun x59 => callX (f_emptied x59)).bind fun x60 => (Rs.nx plain1).bind fun x61 => callN (f_law_rows x60 x61)).to Out.rt)))))))))))
def f_reaches (a_lengths : D) : Out Unit Unit := ((((Rs.nx [] : Rs (List D))).bind lstD).to fun found1 => (((((Rs.nx a_lengths).bind fun x2 => lenD [x2]).bind fun x3 => Rs.nx [x3]).to fun a35 => (rngD1 a35).to fun ds36 => forL (fun (d4 : D) (s5 : D) => (((((Rs.nx a_lengths).bind fun x6 => (Rs.nx d4).bind fun x7 => ixD x6 x7).bind fun x8 => Rs.nx [x8]).to fun a32 => (rngD1 a32).to fun ds33 => forL (fun (d9 : D) (s10 : D) => (((((Rs.nx a_lengths).bind fun x17 => (((Rs.nx d4).bind fun x13 => (Rs.nx (.int 1)).bind fun x14 => intD (· + ·) x13 x14).bind fun x15 => (asI x15).bind fun i16 => Rs.nx (some i16)).bind fun l18 => (Rs.nx none).bind fun h19 => cutD x17 l18 h19).bind (compS (fun d12 => ((Rs.nx d12).bind fun x20 => (Rs.nx d9).bind fun x21 => ofO (gtO x20 x21))) fun d12 => ((Rs.nx d12).bind at?))).bind fun x22 => lenD [x22]).to fun below11 => ((Rs.nx none).to fun j23 => (opD j23 appL s10 ((((Rs.nx a_lengths).bind fun x25 => (Rs.nx d4).bind fun x26 => ixD x25 x26).bind fun x27 => (Rs.nx d9).bind fun x28 => intD (· - ·) x27 x28).bind fun x29 => (Rs.nx below11).bind fun x30 => intD (· + ·) x29 x30)).to fun found24 => (Out.nx found24)))) ds33 s5).bind fun (s31 : D) => (Out.nx s31))) ds36 found1).bind fun (s34 : D) => (((Rs.nx s34).bind (full? 1)).to Out.rt)))
def f_fillings (a_lengths : D) : Out Unit Unit := ((((((Rs.nx a_lengths).bind fun x1 => callN (f_is_shape x1)).bind asB).bind fun c2 => Rs.nx (!c2)).to fun c => if c = true then (Out.exc "NoShape") else (Out.nx ())).bind fun (s3 : Unit) => ((Rs.nx (.int 1)).to fun over4 => ((Rs.nx (.int 1)).to fun under5 => (((Rs.nx a_lengths).bind fun x7 => callN (f_reaches x7)).to fun parts6 => (((((Rs.nx parts6).bind fun x8 => lenD [x8]).bind fun x9 => Rs.nx [x9]).to fun a25 => (rngD1 a25).to fun ds26 => forL (fun (d10 : D) (s11 : D × D) => (((Rs.nx s11.1).bind fun x15 => ((Rs.nx d10).bind fun x13 => (Rs.nx (.int 1)).bind fun x14 => intD (· + ·) x13 x14).bind fun x16 => mulD x15 x16).to fun over12 => (((Rs.nx s11.2).bind fun x20 => ((Rs.nx parts6).bind fun x18 => (Rs.nx d10).bind fun x19 => ixD x18 x19).bind fun x21 => mulD x20 x21).to fun under17 => (Out.nx (over12, under17))))) ds26 (over4, under5)).bind fun (s22 : D × D) => (((Rs.nx s22.1).bind fun x23 => (Rs.nx s22.2).bind fun x24 => divWD x23 x24).to Out.rt))))))
def f_law_told (a_lengths : D) : Out Unit Unit := ((tryD ["NoStairs", "NoPair", "NoPlace", "NoShape", "NoNote"] ((((Rs.nx a_lengths).bind fun x2 => callX (f_fillings x2)).bind at?).to fun found1 => (Out.nx found1)) (fun n3 => ((((Rs.nx (.bl (decide (("NoShape" : Str) = n3)))).bind fun x5 => (Rs.nx (.bl true)).bind fun x6 => (Rs.nx (.bl (decide (("NoStairs" : Str) = n3)))).bind fun x7 => Rs.nx [x5, x6, x7]).bind lstD).to fun told4 => (((((Rs.nx told4).bind fun x11 => (((Rs.nx (.bl (decide (("NoPair" : Str) = n3)))).bind fun x8 => (Rs.nx (.bl (decide (("NoPlace" : Str) = n3)))).bind fun x9 => (Rs.nx (.bl (decide (("NoNote" : Str) = n3)))).bind fun x10 => Rs.nx [x8, x9, x10]).bind lstD).bind fun x12 => catD x11 x12).bind fun x13 => (Rs.nx .non).bind fun x14 => Rs.nx [x13, x14]).bind tupD).to Out.rt)))).bind fun (s15 : D) => ((((Rs.nx .non).bind fun x16 => ((Rs.nx s15).bind at?).bind fun x17 => Rs.nx [x16, x17]).bind tupD).to Out.rt))
def f_law_counted : Nat → D → Out Unit Unit
  | 0, _ => .err
  | fuel + 1, a_lengths => (((((Rs.nx a_lengths).bind fun x1 => sumD [x1]).bind fun x2 => (Rs.nx (.int 0)).bind fun x3 => ofO (eqO x2 x3)).to fun c => if c = true then ((Rs.nx (.int 1)).to Out.rt) else (Out.nx ())).bind fun (s4 : Unit) => ((Rs.nx (.int 0)).to fun many5 => (((((Rs.nx a_lengths).bind fun x6 => lenD [x6]).bind fun x7 => Rs.nx [x7]).to fun a58 => (rngD1 a58).to fun ds59 => forL (fun (d8 : D) (s9 : D) => (((((Rs.nx d8).bind fun x19 => (Rs.nx (.int 1)).bind fun x20 => intD (· + ·) x19 x20).bind fun x22 => ((Rs.nx a_lengths).bind fun x21 => lenD [x21]).bind fun x23 => ofB (eqO x22 x23)).bind fun x24 => orD x24 (((Rs.nx a_lengths).bind fun x13 => ((Rs.nx d8).bind fun x11 => (Rs.nx (.int 1)).bind fun x12 => intD (· + ·) x11 x12).bind fun x14 => ixD x13 x14).bind fun x17 => ((Rs.nx a_lengths).bind fun x15 => (Rs.nx d8).bind fun x16 => ixD x15 x16).bind fun x18 => ofB (ltO x17 x18))).to fun last10 => ((((((Rs.nx a_lengths).bind fun x25 => (Rs.nx d8).bind fun x26 => ixD x25 x26).bind fun x27 => (Rs.nx (.int 0)).bind fun x28 => ofO (gtO x27 x28)).bind fun c29 => if c29 = true then ((Rs.nx last10).bind asB) else Rs.nx false).to fun c => if c = true then (((((Rs.nx a_lengths).bind fun x34 => (Rs.nx none).bind fun l35 => ((Rs.nx d8).bind fun x32 => (asI x32).bind fun i33 => Rs.nx (some i33)).bind fun h36 => cutD x34 l35 h36).bind fun x42 => (((((Rs.nx a_lengths).bind fun x37 => (Rs.nx d8).bind fun x38 => ixD x37 x38).bind fun x39 => (Rs.nx (.int 1)).bind fun x40 => intD (· - ·) x39 x40).bind fun x41 => Rs.nx [x41]).bind lstD).bind fun x43 => catD x42 x43).bind fun x51 => ((Rs.nx a_lengths).bind fun x48 => (((Rs.nx d8).bind fun x44 => (Rs.nx (.int 1)).bind fun x45 => intD (· + ·) x44 x45).bind fun x46 => (asI x46).bind fun i47 => Rs.nx (some i47)).bind fun l49 => (Rs.nx none).bind fun h50 => cutD x48 l49 h50).bind fun x52 => catD x51 x52).to fun less31 => (((Rs.nx s9).bind fun x55 => ((Rs.nx less31).bind fun x54 => callN ((f_law_counted fuel) x54)).bind fun x56 => intD (· + ·) x55 x56).to fun many53 => (Out.nx many53))) else (Out.nx s9)).bind fun (s30 : D) => (Out.nx s30)))) ds59 many5).bind fun (s57 : D) => ((Rs.nx s57).to Out.rt))))
def f_law_choices (a_many a_some : D) : Out Unit Unit := ((Rs.nx (.int 1)).to fun found1 => ((((Rs.nx a_some).bind fun x2 => Rs.nx [x2]).to fun a15 => (rngD1 a15).to fun ds16 => forL (fun (d3 : D) (s4 : D) => ((((Rs.nx s4).bind fun x8 => ((Rs.nx a_many).bind fun x6 => (Rs.nx d3).bind fun x7 => intD (· - ·) x6 x7).bind fun x9 => mulD x8 x9).bind fun x12 => ((Rs.nx d3).bind fun x10 => (Rs.nx (.int 1)).bind fun x11 => intD (· + ·) x10 x11).bind fun x13 => divD x12 x13).to fun found5 => (Out.nx found5))) ds16 found1).bind fun (s14 : D) => ((Rs.nx s14).to Out.rt)))
def f_law_known (a_script : D) : Out Unit Unit := (((Rs.nx (.int 1)).bind fun x5 => ((Rs.nx a_script).bind fun x2 => (Rs.nx (.int 20)).bind fun x3 => (Rs.nx (.int 20)).bind fun x4 => callN (f_law_drawn x2 x3 x4)).bind fun x6 => intD (· + ·) x5 x6).to fun one1 => ((((Rs.nx a_script).bind fun x8 => (Rs.nx (.int 21)).bind fun x9 => (Rs.nx (.int 21)).bind fun x10 => callN (f_law_drawn x8 x9 x10)).bind at?).to fun other7 => (((((Rs.nx a_script).bind fun x11 => (Rs.nx (.int 22)).bind fun x12 => (Rs.nx (.int 2)).bind fun x13 => callN (f_law_drawn x11 x12 x13)).bind fun x14 => (Rs.nx (.int 1)).bind fun x15 => ofO (eqO x14 x15)).to fun c => if c = true then (((((((Rs.nx one1).bind fun x17 => Rs.nx [x17]).bind lstD).bind fun x21 => (((Rs.nx other7).bind fun x19 => Rs.nx [x19]).bind fun a20 => (rng1 a20).bind (compRg yes fun d18 => (Rs.nx (.int 1)))).bind fun x22 => catD x21 x22).bind fun x29 => (((((Rs.nx one1).bind fun x23 => (Rs.nx other7).bind fun x24 => intD (· + ·) x23 x24).bind fun x25 => (Rs.nx (.int 1)).bind fun x26 => intD (· - ·) x25 x26).bind fun x27 => (Rs.nx other7).bind fun x28 => callN (f_law_choices x27 x28)).bind at?).bind fun x30 => Rs.nx [x29, x30]).bind tupD).to Out.rt) else (Out.nx ())).bind fun (s16 : Unit) => (((Rs.nx one1).bind fun x32 => (Rs.nx other7).bind fun x33 => minD [x32, x33]).to fun low31 => (((Rs.nx one1).bind fun x35 => (Rs.nx other7).bind fun x36 => maxD [x35, x36]).to fun high34 => (((((Rs.nx high34).bind fun x39 => (Rs.nx low31).bind fun x40 => Rs.nx [x39, x40]).bind lstD).bind (compS (fun d38 => ((Rs.nx d38).bind fun x41 => (Rs.nx (.int 0)).bind fun x42 => ofO (gtO x41 x42))) fun d38 => ((Rs.nx d38).bind at?))).to fun lengths37 => ((((Rs.nx lengths37).bind fun x43 => ((((Rs.nx high34).bind fun x44 => (Rs.nx low31).bind fun x45 => intD (· + ·) x44 x45).bind fun x46 => (Rs.nx low31).bind fun x47 => callN (f_law_choices x46 x47)).bind fun x59 => ((((Rs.nx high34).bind fun x48 => (Rs.nx low31).bind fun x49 => intD (· + ·) x48 x49).bind fun x52 => ((Rs.nx low31).bind fun x50 => (Rs.nx (.int 1)).bind fun x51 => intD (· - ·) x50 x51).bind fun x53 => callN (f_law_choices x52 x53)).bind fun x57 => (((Rs.nx low31).bind fun x54 => (Rs.nx (.int 0)).bind fun x55 => ofB (gtO x54 x55)).bind fun x56 => intoD [x56]).bind fun x58 => mulD x57 x58).bind fun x60 => intD (· - ·) x59 x60).bind fun x61 => (at? x61).bind fun x61 => Rs.nx (.tup [x43, x61])).bind (full? 2)).to Out.rt)))))))
def f_law_k20 (a_script : D) : Out Unit Unit := (((((Rs.nx a_script).bind fun x3 => (Rs.nx (.int 0)).bind fun x4 => (Rs.nx (.int 5)).bind fun x5 => callN (f_law_drawn x3 x4 x5)).bind fun x6 => Rs.nx [x6]).bind fun a14 => (rng1 a14).bind (compRg yes fun d2 => (((Rs.nx a_script).bind fun x9 => ((Rs.nx (.int 10)).bind fun x7 => (Rs.nx d2).bind fun x8 => intD (· + ·) x7 x8).bind fun x10 => (Rs.nx (.int 6)).bind fun x11 => callN (f_law_drawn x9 x10 x11)).bind fun x12 => (Rs.nx (.int 1)).bind fun x13 => intD (· - ·) x12 x13))).to fun lengths1 => (((((Rs.nx a_script).bind fun x15 => (Rs.nx (.int 1)).bind fun x16 => (Rs.nx (.int 2)).bind fun x17 => callN (f_law_drawn x15 x16 x17)).bind fun x18 => (Rs.nx (.int 1)).bind fun x19 => ofO (eqO x18 x19)).to fun c => if c = true then (((((Rs.nx lengths1).bind (compS (fun d22 => ((Rs.nx d22).bind fun x23 => (Rs.nx (.int 0)).bind fun x24 => ofO (gtO x23 x24))) fun d22 => ((Rs.nx d22).bind at?))).bind fun x25 => sortedD [x25]).bind revD).to fun lengths21 => (Out.nx lengths21)) else (Out.nx lengths1)).bind fun (s20 : D) => ((whileF (fun s26 : D => (((Rs.nx s26).bind fun x29 => sumD [x29]).bind fun x30 => (Rs.nx (.int 8)).bind fun x31 => ofO (gtO x30 x31))) (fun s27 : D => ((lastD s27).to fun x32 => (Out.nx (popD s27)))) 1000 s20).bind fun (s28 : D) => (((((Rs.nx s28).bind fun x37 => mindD 1 [x37]).bind fun x38 => (Rs.nx (.int 0)).bind fun x39 => ofB (gtO x38 x39)).bind fun x40 => andD x40 ((Rs.nx s28).bind fun x35 => (((Rs.nx s28).bind fun x34 => sortedD [x34]).bind revD).bind fun x36 => ofB (eqO x35 x36))).to fun good33 => ((Rs.nx (.int 0)).to fun due41 => ((((Rs.nx good33).bind asB).to fun c => if c = true then ((((Rs.nx s28).bind fun x44 => callN ((f_law_counted 30) x44)).bind at?).to fun due43 => (Out.nx due43)) else (Out.nx due41)).bind fun (s42 : D) => (((((Rs.nx a_script).bind fun x45 => (Rs.nx (.int 2)).bind fun x46 => (Rs.nx (.int 3)).bind fun x47 => callN (f_law_drawn x45 x46 x47)).bind fun x48 => (Rs.nx (.int 1)).bind fun x49 => ofO (eqO x48 x49)).to fun c => if c = true then (((Rs.nx a_script).bind fun x52 => callN (f_law_known x52)).to fun known51 => ((itemAt 0 known51).to fun lengths53 => (((Rs.nx (holeAt 0 known51)).bind fun x56 => (Rs.nx (.int 1)).bind fun x57 => ixD x56 x57).to fun due55 => ((Rs.nx (.bl true)).to fun good58 => (Out.nx (lengths53, good58, due55)))))) else (Out.nx (s28, good33, s42))).bind fun (s50 : D × D × D) => (((Rs.nx s50.1).bind fun x60 => listD [x60]).to fun handed59 => (((Rs.nx handed59).bind fun x62 => callN (f_law_told x62)).to fun found61 => ((((Rs.nx handed59).bind fun x63 => (Rs.nx s50.1).bind fun x64 => ofO (neO x63 x64)).to fun c => if c = true then ((Rs.nx (.bl false)).to Out.rt) else (Out.nx ())).bind fun (s65 : Unit) => (((((Rs.nx s50.2.1).bind asB).bind fun c66 => Rs.nx (!c66)).to fun c => if c = true then ((((Rs.nx found61).bind fun x68 => (Rs.nx (.int 0)).bind fun x69 => ixD x68 x69).bind fun x88 => (((Rs.nx (.bl true)).bind fun x86 => ((Rs.nx (.bl true)).bind fun x84 => ((Rs.nx (.bl false)).bind fun x82 => ((Rs.nx (.bl false)).bind fun x80 => ((Rs.nx (.bl false)).bind fun x78 => ((Rs.nx (.bl false)).bind fun x76 => ((Rs.nx [] : Rs (List D))).bind fun x77 => Rs.nx (x76 :: x77)).bind fun x79 => Rs.nx (x78 :: x79)).bind fun x81 => Rs.nx (x80 :: x81)).bind fun x83 => Rs.nx (x82 :: x83)).bind fun x85 => Rs.nx (x84 :: x85)).bind fun x87 => Rs.nx (x86 :: x87)).bind lstD).bind fun x89 => ofB (eqO x88 x89)).to Out.rt) else (Out.nx ())).bind fun (s67 : Unit) => (((((Rs.nx found61).bind fun x102 => (Rs.nx (.int 0)).bind fun x103 => ixD x102 x103).bind fun x104 => (Rs.nx .non).bind fun x105 => ofB (isO x104 x105)).bind fun x106 => andD x106 ((((Rs.nx found61).bind fun x98 => (Rs.nx (.int 1)).bind fun x99 => ixD x98 x99).bind fun x100 => ofB (isiO "int" x100)).bind fun x101 => andD x101 (((((Rs.nx found61).bind fun x94 => (Rs.nx (.int 1)).bind fun x95 => ixD x94 x95).bind fun x96 => ofB (isiO "bool" x96)).bind notD).bind fun x97 => andD x97 (((Rs.nx found61).bind fun x90 => (Rs.nx (.int 1)).bind fun x91 => ixD x90 x91).bind fun x92 => (Rs.nx s50.2.2).bind fun x93 => ofB (eqO x92 x93))))).to Out.rt))))))))))))
def f_shapes_within : Nat → D → D → Out Unit Unit
  | 0, _, _ => .err
  | fuel + 1, a_many, a_most => ((((Rs.nx a_many).bind fun x1 => (Rs.nx (.int 0)).bind fun x2 => ofO (eqO x1 x2)).to fun c => if c = true then ((((((Rs.nx [] : Rs (List D))).bind lstD).bind fun x4 => Rs.nx [x4]).bind lstD).to Out.rt) else (Out.nx ())).bind fun (s3 : Unit) => ((((Rs.nx [] : Rs (List D))).bind lstD).to fun found5 => (((((Rs.nx a_many).bind fun x6 => (Rs.nx a_most).bind fun x7 => minD [x6, x7]).bind fun x9 => (Rs.nx (.int 0)).bind fun x10 => ((Rs.nx (.int 1)).bind fun x8 => negD x8).bind fun x11 => Rs.nx [x9, x10, x11]).to fun a29 => (rngD3 a29).to fun ds30 => forL (fun (d12 : D) (s13 : D) => (((((Rs.nx a_many).bind fun x14 => (Rs.nx d12).bind fun x15 => intD (· - ·) x14 x15).bind fun x16 => (Rs.nx d12).bind fun x17 => callN ((f_shapes_within fuel) x16 x17)).to fun a26 => (seqD a26).to fun ds27 => forL (fun (d18 : D) (s19 : D) => ((Rs.nx none).to fun j20 => (opD j20 appL s19 ((((Rs.nx d12).bind fun x22 => Rs.nx [x22]).bind lstD).bind fun x23 => (Rs.nx d18).bind fun x24 => catD x23 x24)).to fun found21 => (Out.nx found21))) ds27 s13).bind fun (s25 : D) => (Out.nx s25))) ds30 found5).bind fun (s28 : D) => (((Rs.nx s28).bind (full? 2)).to Out.rt))))
def f_shapes (a_many : D) : Out Unit Unit := (((Rs.nx a_many).bind fun x1 => (Rs.nx a_many).bind fun x2 => callN ((f_shapes_within 30) x1 x2)).to Out.rt)
def f_law_next_k21 (a_lengths : D) : Out Unit Unit := ((Rs.nx (.int 0)).to fun rest1 => (((Rs.nx a_lengths).bind fun x3 => listD [x3]).to fun left2 => ((whileF (fun s4 : D × D => ((((Rs.nx s4.2).bind fun x12 => lenD [x12]).bind fun x13 => (Rs.nx (.int 0)).bind fun x14 => ofO (gtO x13 x14)).bind fun c15 => if c15 = true then (((Rs.nx s4.2).bind fun x8 => ((Rs.nx (.int 1)).bind fun x7 => negD x7).bind fun x9 => ixD x8 x9).bind fun x10 => (Rs.nx (.int 1)).bind fun x11 => ofO (eqO x10 x11)) else Rs.nx false)) (fun s5 : D × D => (((Rs.nx s5.1).bind fun x17 => (at? x17).bind fun x17 => (lastD s5.2).bind fun x18 => intD (· + ·) x17 x18).to fun rest16 => (Out.nx (rest16, (popD s5.2))))) 1000 (rest1, left2)).bind fun (s6 : D × D) => (((((Rs.nx s6.2).bind fun x19 => lenD [x19]).bind fun x20 => (Rs.nx (.int 0)).bind fun x21 => ofO (eqO x20 x21)).to fun c => if c = true then ((Rs.nx .non).to Out.rt) else (Out.nx ())).bind fun (s22 : Unit) => (((lastD s6.2).bind fun x24 => (Rs.nx (.int 1)).bind fun x25 => intD (· - ·) x24 x25).to fun size23 => (((Rs.nx s6.1).bind fun x27 => (Rs.nx (.int 1)).bind fun x28 => intD (· + ·) x27 x28).to fun rest26 => ((Rs.nx none).to fun j29 => (opD j29 appL (popD s6.2) ((Rs.nx size23).bind at?)).to fun left30 => ((whileF (fun s31 : D × D => ((Rs.nx s31.1).bind fun x34 => (Rs.nx (.int 0)).bind fun x35 => ofO (gtO x34 x35))) (fun s32 : D × D => ((Rs.nx none).to fun j36 => (opD j36 appL s32.2 ((Rs.nx size23).bind fun x38 => (Rs.nx s32.1).bind fun x39 => minD [x38, x39])).to fun left37 => (((Rs.nx s32.1).bind fun x44 => ((Rs.nx left37).bind fun x42 => ((Rs.nx (.int 1)).bind fun x41 => negD x41).bind fun x43 => ixD x42 x43).bind fun x45 => intD (· - ·) x44 x45).to fun rest40 => (Out.nx (rest40, left37))))) 1000 (rest26, left30)).bind fun (s33 : D × D) => (((Rs.nx s33.2).bind (full? 1)).to Out.rt)))))))))
def f_law_k21 (a_script : D) : Out Unit Unit := ((((Rs.nx a_script).bind fun x2 => (Rs.nx (.int 0)).bind fun x3 => (Rs.nx (.int 13)).bind fun x4 => callN (f_law_drawn x2 x3 x4)).bind at?).to fun many1 => (((((Rs.nx a_script).bind fun x5 => (Rs.nx (.int 1)).bind fun x6 => (Rs.nx (.int 5)).bind fun x7 => callN (f_law_drawn x5 x6 x7)).bind fun x8 => (Rs.nx (.int 1)).bind fun x9 => ofO (eqO x8 x9)).to fun c => if c = true then (((Rs.nx (.int 13)).bind fun x15 => ((Rs.nx a_script).bind fun x12 => (Rs.nx (.int 2)).bind fun x13 => (Rs.nx (.int 8)).bind fun x14 => callN (f_law_drawn x12 x13 x14)).bind fun x16 => intD (· + ·) x15 x16).to fun many11 => (Out.nx many11)) else (Out.nx many1)).bind fun (s10 : D) => (((Rs.nx s10).bind fun x18 => callN (f_shapes x18)).to fun found17 => ((((Rs.nx [] : Rs (List D))).bind lstD).to fun due19 => ((((Rs.nx [] : Rs (List D))).bind lstD).to fun lengths20 => ((((Rs.nx s10).bind fun x21 => (Rs.nx (.int 0)).bind fun x22 => ofO (gtO x21 x22)).to fun c => if c = true then (((((Rs.nx s10).bind at?).bind fun x25 => Rs.nx [x25]).bind lstD).to fun lengths24 => (Out.nx lengths24)) else (Out.nx lengths20)).bind fun (s23 : D) => ((whileF (fun s26 : D × D => ((Rs.nx s26.2).bind fun x29 => (Rs.nx .non).bind fun x30 => ofO (isntO x29 x30))) (fun s27 : D × D => ((Rs.nx none).to fun j31 => (opD j31 appL s27.1 (Rs.nx s27.2)).to fun due32 => (((Rs.nx s27.2).bind fun x34 => callN (f_law_next_k21 x34)).to fun lengths33 => (Out.nx (due32, lengths33))))) 1000 (due19, s23)).bind fun (s28 : D × D) => ((((((Rs.nx found17).bind fun x35 => (Rs.nx s28.1).bind fun x36 => callN (f_law_rows x35 x36)).bind asB).bind fun c37 => Rs.nx (!c37)).to fun c => if c = true then ((Rs.nx (.bl false)).to Out.rt) else (Out.nx ())).bind fun (s38 : Unit) => (((Rs.nx (.int 0)).bind fun x39 => (idxD found17 x39).bind fun j40 => Rs.nx (some j40)).to fun j41 => (opD j41 appL found17 (Rs.nx (.int 1))).to fun found42 => ((Rs.nx none).to fun j43 => (opD j43 appL found42 (((Rs.nx (.int 3)).bind fun x45 => Rs.nx [x45]).bind lstD)).to fun found44 => ((((Rs.nx s10).bind fun x46 => callN (f_shapes x46)).bind fun x47 => (Rs.nx s28.1).bind fun x48 => callN (f_law_rows x47 x48)).to Out.rt)))))))))))
def f_law_less (a_lengths : D) : Out Unit Unit := ((((Rs.nx [] : Rs (List D))).bind lstD).to fun found1 => (((((Rs.nx a_lengths).bind fun x2 => lenD [x2]).bind fun x3 => Rs.nx [x3]).to fun a49 => (rngD1 a49).to fun ds50 => forL (fun (d4 : D) (s5 : D) => ((((((Rs.nx d4).bind fun x14 => (Rs.nx (.int 1)).bind fun x15 => intD (· + ·) x14 x15).bind fun x17 => ((Rs.nx a_lengths).bind fun x16 => lenD [x16]).bind fun x18 => ofO (eqO x17 x18)).bind fun c19 => if c19 = true then Rs.nx true else (((Rs.nx a_lengths).bind fun x8 => ((Rs.nx d4).bind fun x6 => (Rs.nx (.int 1)).bind fun x7 => intD (· + ·) x6 x7).bind fun x9 => ixD x8 x9).bind fun x12 => ((Rs.nx a_lengths).bind fun x10 => (Rs.nx d4).bind fun x11 => ixD x10 x11).bind fun x13 => ofO (ltO x12 x13))).to fun c => if c = true then (((((Rs.nx a_lengths).bind fun x24 => (Rs.nx none).bind fun l25 => ((Rs.nx d4).bind fun x22 => (asI x22).bind fun i23 => Rs.nx (some i23)).bind fun h26 => cutD x24 l25 h26).bind fun x32 => (((((Rs.nx a_lengths).bind fun x27 => (Rs.nx d4).bind fun x28 => ixD x27 x28).bind fun x29 => (Rs.nx (.int 1)).bind fun x30 => intD (· - ·) x29 x30).bind fun x31 => Rs.nx [x31]).bind lstD).bind fun x33 => catD x32 x33).bind fun x41 => ((Rs.nx a_lengths).bind fun x38 => (((Rs.nx d4).bind fun x34 => (Rs.nx (.int 1)).bind fun x35 => intD (· + ·) x34 x35).bind fun x36 => (asI x36).bind fun i37 => Rs.nx (some i37)).bind fun l39 => (Rs.nx none).bind fun h40 => cutD x38 l39 h40).bind fun x42 => catD x41 x42).to fun less21 => ((Rs.nx none).to fun j43 => (opD j43 appL s5 ((Rs.nx less21).bind (compS (fun d45 => ((Rs.nx d45).bind fun x46 => (Rs.nx (.int 0)).bind fun x47 => ofO (gtO x46 x47))) fun d45 => ((Rs.nx d45).bind at?)))).to fun found44 => (Out.nx found44))) else (Out.nx s5)).bind fun (s20 : D) => (Out.nx s20))) ds50 found1).bind fun (s48 : D) => (((Rs.nx s48).bind (full? 2)).to Out.rt)))
def f_law_k22 (a_script : D) : Out Unit Unit := ((((Rs.nx (.int 8)).bind fun x3 => Rs.nx [x3]).bind fun a11 => (rng1 a11).bind (compRg yes fun d2 => ((Rs.nx (.int 1)).bind fun x9 => ((Rs.nx a_script).bind fun x6 => ((Rs.nx (.int 20)).bind fun x4 => (Rs.nx d2).bind fun x5 => intD (· + ·) x4 x5).bind fun x7 => (Rs.nx (.int 8)).bind fun x8 => callN (f_law_drawn x6 x7 x8)).bind fun x10 => intD (· + ·) x9 x10))).to fun large1 => (((((Rs.nx large1).bind fun x18 => (Rs.nx none).bind fun l19 => (((Rs.nx a_script).bind fun x13 => (Rs.nx (.int 1)).bind fun x14 => (Rs.nx (.int 9)).bind fun x15 => callN (f_law_drawn x13 x14 x15)).bind fun x16 => (asI x16).bind fun i17 => Rs.nx (some i17)).bind fun h20 => cutD x18 l19 h20).bind fun x21 => sortedD [x21]).bind revD).to fun large12 => ((whileF (fun s22 : D => (((Rs.nx s22).bind fun x25 => sumD [x25]).bind fun x26 => (Rs.nx (.int 40)).bind fun x27 => ofO (gtO x26 x27))) (fun s23 : D => ((lastD s23).to fun x28 => (Out.nx (popD s23)))) 1000 large12).bind fun (s24 : D) => (((((Rs.nx s24).bind fun x31 => callN (f_law_less x31)).bind (compS yes fun d30 => (((Rs.nx d30).bind fun x32 => callX (f_fillings x32)).bind at?))).bind fun x33 => sumD [x33]).to fun less29 => ((((((Rs.nx s24).bind fun x37 => lenD [x37]).bind fun x38 => (Rs.nx (.int 0)).bind fun x39 => ofO (gtO x38 x39)).bind fun c40 => if c40 = true then ((Rs.nx less29).bind fun x35 => ((Rs.nx s24).bind fun x34 => callX (f_fillings x34)).bind fun x36 => ofO (neO x35 x36)) else Rs.nx false).to fun c => if c = true then ((Rs.nx (.bl false)).to Out.rt) else (Out.nx ())).bind fun (s41 : Unit) => ((((Rs.nx a_script).bind fun x43 => (Rs.nx (.int 0)).bind fun x44 => (Rs.nx (.int 13)).bind fun x45 => callN (f_law_drawn x43 x44 x45)).bind at?).to fun many42 => ((Rs.nx (.int 1)).to fun due46 => ((((Rs.nx many42).bind fun x47 => Rs.nx [x47]).to fun a103 => (rngD1 a103).to fun ds104 => forL (fun (d48 : D) (s49 : D) => (((Rs.nx s49).bind fun x53 => ((Rs.nx d48).bind fun x51 => (Rs.nx (.int 1)).bind fun x52 => intD (· + ·) x51 x52).bind fun x54 => mulD x53 x54).to fun due50 => (Out.nx due50))) ds104 due46).bind fun (s55 : D) => (((Rs.nx many42).bind fun x57 => callN (f_shapes x57)).to fun told56 => ((((Rs.nx (.int 0)).bind fun x61 => ((Rs.nx many42).bind fun x59 => (Rs.nx (.int 1)).bind fun x60 => intD (· - ·) x59 x60).bind fun x62 => maxD [x61, x62]).bind fun x63 => callN (f_shapes x63)).to fun before58 => ((Rs.nx (.int 0)).to fun whole64 => (((Rs.nx told56).to fun a101 => (seqD a101).to fun ds102 => forL (fun (d65 : D) (s66 : D) => (((((Rs.nx d65).bind fun x68 => listD [x68]).bind fun x69 => callX (f_fillings x69)).bind at?).to fun count67 => (((Rs.nx s66).bind fun x73 => ((Rs.nx count67).bind fun x71 => (Rs.nx count67).bind fun x72 => mulD x71 x72).bind fun x74 => intD (· + ·) x73 x74).to fun whole70 => ((((Rs.nx many42).bind fun x75 => (Rs.nx (.int 0)).bind fun x76 => ofO (gtO x75 x76)).to fun c => if c = true then ((Rs.nx (.int 0)).to fun less78 => ((((Rs.nx d65).bind fun x79 => callN (f_law_less x79)).to fun a94 => (seqD a94).to fun ds95 => forL (fun (d80 : D) (s81 : D) => ((((Rs.nx d80).bind fun x82 => (Rs.nx before58).bind fun x83 => ofO (ninO x82 x83)).to fun c => if c = true then ((Rs.nx (.bl false)).to Out.rt) else (Out.nx ())).bind fun (s84 : Unit) => (((Rs.nx s81).bind fun x88 => (((Rs.nx d80).bind fun x86 => listD [x86]).bind fun x87 => callX (f_fillings x87)).bind fun x89 => intD (· + ·) x88 x89).to fun less85 => (Out.nx less85)))) ds95 less78).bind fun (s90 : D) => ((((Rs.nx s90).bind fun x91 => (Rs.nx count67).bind fun x92 => ofO (neO x91 x92)).to fun c => if c = true then ((Rs.nx (.bl false)).to Out.rt) else (Out.nx ())).bind fun (s93 : Unit) => (Out.nx ())))) else (Out.nx ())).bind fun (s77 : Unit) => (Out.nx whole70))))) ds102 whole64).bind fun (s96 : D) => ((((Rs.nx s96).bind fun x99 => ofB (isiO "int" x99)).bind fun x100 => andD x100 ((Rs.nx s96).bind fun x97 => (Rs.nx s55).bind fun x98 => ofB (eqO x97 x98))).to Out.rt)))))))))))))
def f_most_rising (a_row a_many : D) : Out Unit Unit := (((((((Rs.nx a_row).bind fun x1 => callN (f_laid x1)).bind fun x2 => (Rs.nx (.int 0)).bind fun x3 => ixD x2 x3).bind fun x4 => callN (f_shape x4)).bind fun x7 => (Rs.nx none).bind fun l8 => ((Rs.nx a_many).bind fun x5 => (asI x5).bind fun i6 => Rs.nx (some i6)).bind fun h9 => cutD x7 l8 h9).bind fun x10 => sumD [x10]).to Out.rt)
def f_most_falling (a_row a_many : D) : Out Unit Unit := ((((((((Rs.nx a_row).bind fun x1 => callN (f_laid x1)).bind fun x2 => (Rs.nx (.int 0)).bind fun x3 => ixD x2 x3).bind fun x4 => callN (f_turned x4)).bind fun x5 => callN (f_shape x5)).bind fun x8 => (Rs.nx none).bind fun l9 => ((Rs.nx a_many).bind fun x6 => (asI x6).bind fun i7 => Rs.nx (some i7)).bind fun h10 => cutD x8 l9 h10).bind fun x11 => sumD [x11]).to Out.rt)
def f_law_longest (a_row a_sign : D) : Out Unit Unit := ((((Rs.nx [] : Rs (List D))).bind lstD).to fun best1 => (((((Rs.nx a_row).bind fun x2 => lenD [x2]).bind fun x3 => Rs.nx [x3]).to fun a29 => (rngD1 a29).to fun ds30 => forL (fun (d4 : D) (s5 : D) => ((((Rs.nx d4).bind fun x8 => Rs.nx [x8]).bind fun a21 => (rng1 a21).bind (compRg (fun d7 => (((Rs.nx a_sign).bind fun x13 => ((Rs.nx a_row).bind fun x11 => (Rs.nx d7).bind fun x12 => ixD x11 x12).bind fun x14 => mulD x13 x14).bind fun x19 => ((Rs.nx a_sign).bind fun x17 => ((Rs.nx a_row).bind fun x15 => (Rs.nx d4).bind fun x16 => ixD x15 x16).bind fun x18 => mulD x17 x18).bind fun x20 => ofO (ltO x19 x20))) fun d7 => (((Rs.nx s5).bind fun x9 => (Rs.nx d7).bind fun x10 => ixD x9 x10).bind at?))).to fun ends6 => ((Rs.nx none).to fun j22 => (opD j22 appL s5 ((Rs.nx (.int 1)).bind fun x25 => ((Rs.nx ends6).bind fun x24 => maxdD 0 [x24]).bind fun x26 => intD (· + ·) x25 x26)).to fun best23 => (Out.nx best23)))) ds30 best1).bind fun (s27 : D) => (((Rs.nx s27).bind fun x28 => maxdD 0 [x28]).to Out.rt)))
def f_law_stretches (a_script : D) : Out Unit Unit := (((((Rs.nx a_script).bind fun x3 => (Rs.nx (.int 20)).bind fun x4 => (Rs.nx (.int 6)).bind fun x5 => callN (f_law_drawn x3 x4 x5)).bind fun x6 => Rs.nx [x6]).bind fun a14 => (rng1 a14).bind (compRg yes fun d2 => ((Rs.nx (.int 1)).bind fun x12 => ((Rs.nx a_script).bind fun x9 => ((Rs.nx (.int 30)).bind fun x7 => (Rs.nx d2).bind fun x8 => intD (· + ·) x7 x8).bind fun x10 => (Rs.nx (.int 8)).bind fun x11 => callN (f_law_drawn x9 x10 x11)).bind fun x13 => intD (· + ·) x12 x13))).to fun lengths1 => ((((Rs.nx [] : Rs (List D))).bind lstD).to fun row15 => ((Rs.nx (.int 1000)).to fun base16 => (((Rs.nx lengths1).to fun a33 => (seqD a33).to fun ds34 => forL (fun (d17 : D) (s18 : D × D) => (((Rs.nx s18.2).bind fun x20 => (Rs.nx (.int 20)).bind fun x21 => intD (· - ·) x20 x21).to fun base19 => (((Rs.nx s18.1).bind fun x28 => (((Rs.nx d17).bind fun x24 => Rs.nx [x24]).bind fun a27 => (rng1 a27).bind (compRg yes fun d23 => ((Rs.nx base19).bind fun x25 => (Rs.nx d23).bind fun x26 => intD (· + ·) x25 x26))).bind fun x29 => catD x28 x29).to fun row22 => (Out.nx (row22, base19))))) ds34 (row15, base16)).bind fun (s30 : D × D) => ((((Rs.nx lengths1).bind fun x31 => (Rs.nx s30.1).bind fun x32 => Rs.nx [x31, x32]).bind tupD).to Out.rt)))))
def f_law_sum (a_lengths a_many : D) : Out Unit Unit := ((((((Rs.nx a_lengths).bind fun x1 => sortedD [x1]).bind revD).bind fun x4 => (Rs.nx none).bind fun l5 => ((Rs.nx a_many).bind fun x2 => (asI x2).bind fun i3 => Rs.nx (some i3)).bind fun h6 => cutD x4 l5 h6).bind fun x7 => sumD [x7]).to Out.rt)
def f_law_due (a_rows : D) : Out Unit Unit := (((Rs.nx a_rows).bind (compS yes fun d2 => ((Rs.nx d2).bind (compS yes fun d3 => (Rs.nx (.int 0)))))).to fun made1 => (((Rs.nx a_rows).bind (compS yes fun d5 => ((Rs.nx d5).bind fun x6 => listD [x6]))).to fun left4 => ((((((Rs.nx a_rows).bind (compS yes fun d7 => ((Rs.nx d7).bind fun x8 => lenD [x8]))).bind fun x9 => sumD [x9]).bind fun x11 => (Rs.nx (.int 0)).bind fun x12 => ((Rs.nx (.int 1)).bind fun x10 => negD x10).bind fun x13 => Rs.nx [x11, x12, x13]).to fun a46 => (rngD3 a46).to fun ds47 => forL (fun (d14 : D) (s15 : D × D) => ((Rs.nx .non).to fun x18 => ((Rs.nx (.int 0)).bind fun x16 => (idxD s15.2 x16).bind fun j17 => Rs.nx (some j17)).to fun j19 => (Rs.nx (.int 0)).to fun x20 => (edD j19 (setL x20 x18) s15.2).to fun left21 => (((Rs.nx left21).bind (compS yes fun d23 => ((Rs.nx d23).bind fun x24 => lenD [x24]))).to fun lengths22 => (((Rs.nx left21).bind fun x26 => (Rs.nx (.int 0)).bind fun x27 => callN (f_law_slid x26 x27)).to fun out25 => ((((Rs.nx out25).bind fun x29 => (Rs.nx (.int 0)).bind fun x30 => ixD x29 x30).bind at?).to fun left28 => (((Rs.nx d14).bind at?).to fun x41 => (((Rs.nx out25).bind fun x31 => (Rs.nx (.int 1)).bind fun x32 => ixD x31 x32).bind fun x33 => (idxD s15.1 x33).bind fun j34 => Rs.nx (some j34)).to fun j42 => (((Rs.nx lengths22).bind fun x37 => ((Rs.nx out25).bind fun x35 => (Rs.nx (.int 1)).bind fun x36 => ixD x35 x36).bind fun x38 => ixD x37 x38).bind fun x39 => (Rs.nx (.int 1)).bind fun x40 => intD (· - ·) x39 x40).to fun x43 => (edD j42 (setL x43 x41) s15.1).to fun made44 => (Out.nx (made44, left28)))))))) ds47 (made1, left4)).bind fun (s45 : D × D) => (((Rs.nx s45.1).bind (full? 2)).to Out.rt))))
def f_law_marks_k24 (a_rows : D) : Out Unit Unit := ((tryD ["NoStairs", "NoPair", "NoPlace", "NoShape", "NoNote"] (((Rs.nx a_rows).bind fun x1 => callX (f_evacuated x1)).to fun x2 => (Out.nx ())) (fun n3 => ((((Rs.nx (.bl (decide (("NoStairs" : Str) = n3)))).bind fun x15 => ((Rs.nx (.bl true)).bind fun x13 => ((Rs.nx (.bl (decide (("NoPlace" : Str) = n3)))).bind fun x11 => ((Rs.nx (.bl (decide (("NoPair" : Str) = n3)))).bind fun x9 => ((Rs.nx [] : Rs (List D))).bind fun x10 => Rs.nx (x9 :: x10)).bind fun x12 => Rs.nx (x11 :: x12)).bind fun x14 => Rs.nx (x13 :: x14)).bind fun x16 => Rs.nx (x15 :: x16)).bind lstD).to fun found4 => (((Rs.nx found4).bind fun x19 => (((Rs.nx (.bl (decide (("NoShape" : Str) = n3)))).bind fun x17 => (Rs.nx (.bl (decide (("NoNote" : Str) = n3)))).bind fun x18 => Rs.nx [x17, x18]).bind lstD).bind fun x20 => catD x19 x20).to Out.rt)))).bind fun (s21 : Unit) => ((((Rs.nx [] : Rs (List D))).bind lstD).to Out.rt))
def f_law_good_k26 (a_rows : D) : Out Unit Unit := ((((Rs.nx [] : Rs (List D))).bind lstD).to fun seen1 => (((((Rs.nx a_rows).bind fun x2 => lenD [x2]).bind fun x3 => Rs.nx [x3]).to fun a88 => (rngD1 a88).to fun ds89 => forL (fun (d4 : D) (s5 : D) => (((Rs.nx a_rows).bind fun x7 => (Rs.nx d4).bind fun x8 => ixD x7 x8).to fun row6 => (((((Rs.nx d4).bind fun x17 => (Rs.nx (.int 0)).bind fun x18 => ofO (gtO x17 x18)).bind fun c19 => if c19 = true then (((Rs.nx row6).bind fun x9 => lenD [x9]).bind fun x15 => (((Rs.nx a_rows).bind fun x12 => ((Rs.nx d4).bind fun x10 => (Rs.nx (.int 1)).bind fun x11 => intD (· - ·) x10 x11).bind fun x13 => ixD x12 x13).bind fun x14 => lenD [x14]).bind fun x16 => ofO (gtO x15 x16)) else Rs.nx false).to fun c => if c = true then ((Rs.nx (.bl false)).to Out.rt) else (Out.nx ())).bind fun (s20 : Unit) => (((((Rs.nx row6).bind fun x21 => lenD [x21]).bind fun x22 => Rs.nx [x22]).to fun a85 => (rngD1 a85).to fun ds86 => forL (fun (d23 : D) (s24 : D) => ((((Rs.nx row6).bind fun x28 => (Rs.nx none).bind fun l29 => ((Rs.nx d23).bind fun x26 => (asI x26).bind fun i27 => Rs.nx (some i27)).bind fun h30 => cutD x28 l29 h30).bind fun x39 => (((Rs.nx a_rows).bind fun x34 => (Rs.nx none).bind fun l35 => ((Rs.nx d4).bind fun x32 => (asI x32).bind fun i33 => Rs.nx (some i33)).bind fun h36 => cutRD x34 l35 h36).bind (compS yes fun d31 => (((Rs.nx d31).bind fun x37 => (Rs.nx d23).bind fun x38 => ixD x37 x38).bind at?))).bind fun x40 => catD x39 x40).to fun ahead25 => (((Rs.nx ahead25).bind (compS (fun d42 => ((Rs.nx d42).bind fun x43 => (Rs.nx .non).bind fun x44 => ofO (isntO x43 x44))) fun d42 => ((Rs.nx d42).bind at?))).to fun less41 => ((((((Rs.nx row6).bind fun x48 => (Rs.nx d23).bind fun x49 => ixD x48 x49).bind fun x50 => (Rs.nx .non).bind fun x51 => ofO (isO x50 x51)).bind fun c52 => if c52 = true then (((Rs.nx less41).bind fun x45 => lenD [x45]).bind fun x46 => (Rs.nx (.int 0)).bind fun x47 => ofO (gtO x46 x47)) else Rs.nx false).to fun c => if c = true then ((Rs.nx (.bl false)).to Out.rt) else (Out.nx ())).bind fun (s53 : Unit) => ((((((Rs.nx row6).bind fun x58 => (Rs.nx d23).bind fun x59 => ixD x58 x59).bind fun x60 => (Rs.nx .non).bind fun x61 => ofO (isntO x60 x61)).bind fun c62 => if c62 = true then (((Rs.nx row6).bind fun x54 => (Rs.nx d23).bind fun x55 => ixD x54 x55).bind fun x56 => (Rs.nx s24).bind fun x57 => ofO (inO x56 x57)) else Rs.nx false).to fun c => if c = true then ((Rs.nx (.bl false)).to Out.rt) else (Out.nx ())).bind fun (s63 : Unit) => ((((((Rs.nx row6).bind fun x74 => (Rs.nx d23).bind fun x75 => ixD x74 x75).bind fun x76 => (Rs.nx .non).bind fun x77 => ofO (isntO x76 x77)).bind fun c78 => if c78 = true then ((((Rs.nx less41).bind fun x67 => ((((Rs.nx row6).bind fun x64 => (Rs.nx d23).bind fun x65 => ixD x64 x65).bind fun x66 => Rs.nx [x66]).bind lstD).bind fun x68 => catD x67 x68).bind fun x69 => maxD [x69]).bind fun x72 => ((Rs.nx row6).bind fun x70 => (Rs.nx d23).bind fun x71 => ixD x70 x71).bind fun x73 => ofO (neO x72 x73)) else Rs.nx false).to fun c => if c = true then ((Rs.nx (.bl false)).to Out.rt) else (Out.nx ())).bind fun (s79 : Unit) => ((Rs.nx none).to fun j80 => (opD j80 appL s24 (((Rs.nx row6).bind fun x82 => (Rs.nx d23).bind fun x83 => ixD x82 x83).bind at?)).to fun seen81 => (Out.nx seen81)))))))) ds86 s5).bind fun (s84 : D) => (Out.nx s84))))) ds89 seen1).bind fun (s87 : D) => ((Rs.nx (.bl true)).to Out.rt)))
def f_law_odd (a_script : D) : Out Unit Unit := ((((Rs.nx (.str ".")).bind fun x36 => ((Rs.nx (.str "..")).bind fun x34 => ((Rs.nx (.str " ")).bind fun x32 => ((Rs.nx (.str "\n")).bind fun x30 => ((Rs.nx (.str "0\n")).bind fun x28 => ((Rs.nx (.str "-0")).bind fun x26 => ((Rs.nx (.str "00")).bind fun x24 => ((Rs.nx (.str "01")).bind fun x22 => ((Rs.nx (.str "+1")).bind fun x20 => ((Rs.nx (.str "1  2")).bind fun x18 => ((Rs.nx (.str " 1")).bind fun x16 => ((Rs.nx (.str "1 ")).bind fun x14 => ((Rs.nx [] : Rs (List D))).bind fun x15 => Rs.nx (x14 :: x15)).bind fun x17 => Rs.nx (x16 :: x17)).bind fun x19 => Rs.nx (x18 :: x19)).bind fun x21 => Rs.nx (x20 :: x21)).bind fun x23 => Rs.nx (x22 :: x23)).bind fun x25 => Rs.nx (x24 :: x25)).bind fun x27 => Rs.nx (x26 :: x27)).bind fun x29 => Rs.nx (x28 :: x29)).bind fun x31 => Rs.nx (x30 :: x31)).bind fun x33 => Rs.nx (x32 :: x33)).bind fun x35 => Rs.nx (x34 :: x35)).bind fun x37 => Rs.nx (x36 :: x37)).bind lstD).to fun some1 => (((Rs.nx some1).bind fun x42 => (((Rs.nx (.str "2 1")).bind fun x39 => (Rs.nx (.str "1 2\n1 3")).bind fun x40 => (Rs.nx (.str "1\n2 3")).bind fun x41 => Rs.nx [x39, x40, x41]).bind lstD).bind fun x43 => catD x42 x43).to fun some38 => (((Rs.nx some38).bind fun x68 => (((Rs.nx (.str "1\n.")).bind fun x66 => ((Rs.nx (.str ". 1\n2")).bind fun x64 => (((Rs.nx (.str "1")).bind fun x47 => ((Rs.nx (.str "0")).bind fun x45 => (Rs.nx (.int 30)).bind fun x46 => mulD x45 x46).bind fun x48 => addD x47 x48).bind fun x62 => (((Rs.nx (.str "-")).bind fun x51 => ((Rs.nx (.str "9")).bind fun x49 => (Rs.nx (.int 30)).bind fun x50 => mulD x49 x50).bind fun x52 => addD x51 x52).bind fun x60 => ((Rs.nx (.str "1 2\n3 4\n5 6")).bind fun x58 => ((Rs.nx [] : Rs (List D))).bind fun x59 => Rs.nx (x58 :: x59)).bind fun x61 => Rs.nx (x60 :: x61)).bind fun x63 => Rs.nx (x62 :: x63)).bind fun x65 => Rs.nx (x64 :: x65)).bind fun x67 => Rs.nx (x66 :: x67)).bind lstD).bind fun x69 => catD x68 x69).to fun some44 => (((Rs.nx some44).bind fun x73 => ((Rs.nx a_script).bind fun x70 => (Rs.nx (.int 410)).bind fun x71 => (Rs.nx (.int 20)).bind fun x72 => callN (f_law_drawn x70 x71 x72)).bind fun x74 => ixD x73 x74).to Out.rt))))
def f_law_changed (a_script a_shown : D) : Out Unit Unit := ((Rs.nx (.str " !\"#$&'()*+,-./0123456789:;<=>?@ABCDEFGHIJKLMNOPQRSTUVWXYZ[\\]^_`")).to fun signs1 => ((((Rs.nx signs1).bind fun x3 => (Rs.nx (.str "abcdefghijklmnopqrstuvwxyz{|}~\n")).bind fun x4 => addD x3 x4).bind at?).to fun signs2 => ((((Rs.nx signs2).bind fun x10 => ((Rs.nx a_script).bind fun x7 => (Rs.nx (.int 411)).bind fun x8 => ((Rs.nx signs2).bind fun x6 => lenD [x6]).bind fun x9 => callN (f_law_drawn x7 x8 x9)).bind fun x11 => ixD x10 x11).bind at?).to fun sign5 => (((((Rs.nx a_script).bind fun x12 => (Rs.nx (.int 412)).bind fun x13 => (Rs.nx (.int 2)).bind fun x14 => callN (f_law_drawn x12 x13 x14)).bind fun x15 => (Rs.nx (.int 1)).bind fun x16 => ofO (eqO x15 x16)).to fun c => if c = true then ((((Rs.nx (.str "0123456789.- \n")).bind fun x22 => ((Rs.nx a_script).bind fun x19 => (Rs.nx (.int 413)).bind fun x20 => (Rs.nx (.int 14)).bind fun x21 => callN (f_law_drawn x19 x20 x21)).bind fun x23 => ixD x22 x23).bind at?).to fun sign18 => (Out.nx sign18)) else (Out.nx sign5)).bind fun (s17 : D) => ((((Rs.nx a_script).bind fun x28 => (Rs.nx (.int 414)).bind fun x29 => (((Rs.nx a_shown).bind fun x25 => lenD [x25]).bind fun x26 => (Rs.nx (.int 1)).bind fun x27 => intD (· + ·) x26 x27).bind fun x30 => callN (f_law_drawn x28 x29 x30)).bind at?).to fun v_at24 => ((((Rs.nx a_script).bind fun x32 => (Rs.nx (.int 415)).bind fun x33 => (Rs.nx (.int 3)).bind fun x34 => callN (f_law_drawn x32 x33 x34)).bind at?).to fun way31 => ((((Rs.nx way31).bind fun x35 => (Rs.nx (.int 0)).bind fun x36 => ofO (eqO x35 x36)).to fun c => if c = true then (((((Rs.nx a_shown).bind fun x40 => (Rs.nx none).bind fun l41 => ((Rs.nx v_at24).bind fun x38 => (asI x38).bind fun i39 => Rs.nx (some i39)).bind fun h42 => cutD x40 l41 h42).bind fun x43 => (Rs.nx s17).bind fun x44 => addD x43 x44).bind fun x50 => ((Rs.nx a_shown).bind fun x47 => ((Rs.nx v_at24).bind fun x45 => (asI x45).bind fun i46 => Rs.nx (some i46)).bind fun l48 => (Rs.nx none).bind fun h49 => cutD x47 l48 h49).bind fun x51 => addD x50 x51).to Out.rt) else (Out.nx ())).bind fun (s37 : Unit) => ((((Rs.nx way31).bind fun x52 => (Rs.nx (.int 1)).bind fun x53 => ofO (eqO x52 x53)).to fun c => if c = true then ((((Rs.nx a_shown).bind fun x57 => (Rs.nx none).bind fun l58 => ((Rs.nx v_at24).bind fun x55 => (asI x55).bind fun i56 => Rs.nx (some i56)).bind fun h59 => cutD x57 l58 h59).bind fun x67 => ((Rs.nx a_shown).bind fun x64 => (((Rs.nx v_at24).bind fun x60 => (Rs.nx (.int 1)).bind fun x61 => intD (· + ·) x60 x61).bind fun x62 => (asI x62).bind fun i63 => Rs.nx (some i63)).bind fun l65 => (Rs.nx none).bind fun h66 => cutD x64 l65 h66).bind fun x68 => addD x67 x68).to Out.rt) else (Out.nx ())).bind fun (s54 : Unit) => (((((Rs.nx a_shown).bind fun x71 => (Rs.nx none).bind fun l72 => ((Rs.nx v_at24).bind fun x69 => (asI x69).bind fun i70 => Rs.nx (some i70)).bind fun h73 => cutD x71 l72 h73).bind fun x74 => (Rs.nx s17).bind fun x75 => addD x74 x75).bind fun x83 => ((Rs.nx a_shown).bind fun x80 => (((Rs.nx v_at24).bind fun x76 => (Rs.nx (.int 1)).bind fun x77 => intD (· + ·) x76 x77).bind fun x78 => (asI x78).bind fun i79 => Rs.nx (some i79)).bind fun l81 => (Rs.nx none).bind fun h82 => cutD x80 l81 h82).bind fun x84 => addD x83 x84).to Out.rt)))))))))
end Sw

/- part SwM1 -/
/-! What the plain functions compute: numbers, lists, loops. -/
namespace Sw
open PySem L2
abbrev iD (ns : List Int) : D := .lst (ns.map .int)
abbrev rD (rows : List (List Int)) : D := .lst (rows.map iD)
theorem szl : sizeLine = 16777216 := id rfl
/-! ### loops -/
theorem forL_inv {β S ι : Type} {b : ι → S → Out S S} (I : Nat → S → Prop) : ∀ (ds : List ι) (s : S) (k0 : Nat), I k0 s →
    (∀ (j : Nat) (d : ι) (s : S), ds[j]? = some d → I (k0 + j) s → ∃ s', b d s = .nx s' ∧ I (k0 + j + 1) s') → ∃ s', (forL b ds s : Out β S) = .nx s' ∧ I (k0 + ds.length) s'
  | [], s, k0, h, _ => ⟨s, rfl, h⟩
  | d :: r, s, k0, h, hb => by
    obtain ⟨s', e, h'⟩ := hb 0 d s rfl h
    obtain ⟨s2, e2, h2⟩ := forL_inv I r s' (k0 + 1) h' fun j d' t hd ht => by
      have := hb (j + 1) d' t (by simpa using hd) (by rw [show k0 + (j + 1) = k0 + 1 + j by omega]; exact ht)
      rw [show k0 + (j + 1) + 1 = k0 + 1 + j + 1 by omega] at this
      exact this
    refine ⟨s2, ?_, by rw [List.length_cons, show k0 + (r.length + 1) = k0 + 1 + r.length by omega]; exact h2⟩
    rw [forL_cons, e]
    exact e2
theorem upto_get {n j : Nat} {d : D} (h : (upto n)[j]? = some d) : d = .int j ∧ j < n := by
  unfold upto at h
  rw [List.getElem?_map] at h
  by_cases c : j < n
  · rw [List.getElem?_range c] at h
    exact ⟨by cases h; rfl, c⟩
  · rw [List.getElem?_eq_none (by simp; omega)] at h
    cases h
@[simp] theorem upto_len (n : Nat) : (upto n).length = n := by simp [upto]
theorem forU_inv {β S : Type} {b : D → S → Out S S} (n : Nat) (I : Nat → S → Prop) {s : S} (h0 : I 0 s) (hb : ∀ (j : Nat) (s : S), j < n → I j s → ∃ s', b (.int j) s = .nx s' ∧ I (j + 1) s') :
    ∃ s', (forL b (upto n) s : Out β S) = .nx s' ∧ I n s' := by
  have := forL_inv (β := β) I (upto n) s 0 h0 fun j d s hd hi => by
    obtain ⟨e, hj⟩ := upto_get hd
    subst e
    rw [Nat.zero_add] at hi ⊢
    exact hb j s hj hi
  rwa [upto_len, Nat.zero_add] at this
@[simp] theorem rngD1_nat {j : Int} (h0 : 0 ≤ j) (h1 : j < 4611686018427387904) : rngD1 [.int j] = .nx (upto j.toNat) := by
  show (if -(2 ^ 62) ≤ j ∧ j < 2 ^ 62 then Rs.nx (upto j.toNat) else .err) = _
  rw [if_pos ⟨by omega, by omega⟩]
theorem rngD1_len {n : Nat} (h : n ≤ 16777216) : rngD1 [.int (n : Int)] = .nx (upto n) := by
  rw [rngD1_nat (by omega) (by omega)]
  simp
/-! ### items -/
theorem ixN_nat {n j : Nat} (h : j < n) : ixN n (j : Int) = some j := by
  unfold ixN
  rw [if_pos (by omega), if_pos (by omega)]
  simp
theorem atI_nat {α : Type} {l : List α} {j : Nat} (h : j < l.length) : atI l (j : Int) = some l[j] := by
  unfold atI
  rw [ixN_nat h]
  simp [List.getElem?_eq_getElem h]
theorem ixD_lst {ds : List D} {j : Nat} (h : j < ds.length) : ixD (.lst ds) (.int j) = .nx ds[j] := by
  show (match atI ds (j : Int) with | some d => Rs.nx d | none => .err) = _
  rw [atI_nat h]
theorem ixD_tup {ds : List D} {j : Nat} (h : j < ds.length) : ixD (.tup ds) (.int j) = .nx ds[j] := by
  show (match atI ds (j : Int) with | some d => Rs.nx d | none => .err) = _
  rw [atI_nat h]
@[simp] theorem ixD_tup0 (d : D) (r : List D) : ixD (.tup (d :: r)) (.int 0) = .nx d := ixD_tup (ds := d :: r) (j := 0) (by simp)
@[simp] theorem ixD_tup1 (d e : D) (r : List D) : ixD (.tup (d :: e :: r)) (.int 1) = .nx e := ixD_tup (ds := d :: e :: r) (j := 1) (by simp)
@[simp] theorem ixD_lst0 (d : D) (r : List D) : ixD (.lst (d :: r)) (.int 0) = .nx d := ixD_lst (ds := d :: r) (j := 0) (by simp)
@[simp] theorem ixD_lst1 (d e : D) (r : List D) : ixD (.lst (d :: e :: r)) (.int 1) = .nx e := ixD_lst (ds := d :: e :: r) (j := 1) (by simp)
@[simp] theorem ixD_lst2 (d e f : D) (r : List D) : ixD (.lst (d :: e :: f :: r)) (.int 2) = .nx f := ixD_lst (ds := d :: e :: f :: r) (j := 2) (by simp)
theorem ixD_iD {ns : List Int} {j : Nat} (h : j < ns.length) : ixD (iD ns) (.int j) = .nx (.int ns[j]) := by
  rw [ixD_lst (by simpa using h)]
  simp
theorem ixD_rD {rows : List (List Int)} {j : Nat} (h : j < rows.length) : ixD (rD rows) (.int j) = .nx (iD rows[j]) := by
  rw [ixD_lst (by simpa using h)]
  simp
theorem ixD_scr {ns : List Int} {j : Nat} (h : j < ns.length) : ixD (.scr ns) (.int j) = .nx (.int ns[j]) := by
  show (match atI (ns.map D.int) (j : Int) with | some d => Rs.nx d | none => .err) = _
  rw [atI_nat (by simpa using h)]
  simp
@[simp] theorem lenD_lst (xs : List D) : lenD [.lst xs] = .nx (.int xs.length) := id rfl
@[simp] theorem lenD_tup (xs : List D) : lenD [.tup xs] = .nx (.int xs.length) := id rfl
@[simp] theorem lenD_scr (xs : List Int) : lenD [.scr xs] = .nx (.int xs.length) := id rfl
@[simp] theorem intD_int (g : Int → Int → Int) (i j : Int) : intD g (.int i) (.int j) = .nx (.int (g i j)) := id rfl
theorem mulD_int {i j : Int} (h : (-1000000000000000000 < i ∧ i < 1000000000000000000) ∨ (-1000000000000000000 < j ∧ j < 1000000000000000000)) : mulD (.int i) (.int j) = .nx (.int (i * j)) := by
  show (if (small64 i || small64 j) = true then Rs.nx (D.int (i * j)) else .err) = _
  rw [if_pos]
  unfold small64
  simp
  omega
theorem modD_int {i j : Int} (h : 0 < j) : modD (.int i) (.int j) = .nx (.int (i % j)) := by
  show (if decide (0 < j) = true then Rs.nx (D.int (i % j)) else .err) = _
  rw [if_pos (by simpa using h)]
theorem divD_int {i j : Int} (h : 0 < j) (h2 : j < 1073741824) : divD (.int i) (.int j) = .nx (.int (i / j)) := by
  show (if (decide (0 < j) && decide (j < 1073741824)) = true then Rs.nx (D.int (i / j)) else .err) = _
  rw [if_pos (by simp [h, h2])]
@[simp] theorem gtO_int (i j : Int) : gtO (.int i) (.int j) = some (decide (j < i)) := id rfl
@[simp] theorem ltO_int (i j : Int) : ltO (.int i) (.int j) = some (decide (i < j)) := id rfl
@[simp] theorem geO_int (i j : Int) : geO (.int i) (.int j) = some (decide (j ≤ i)) := id rfl
@[simp] theorem leO_int (i j : Int) : leO (.int i) (.int j) = some (decide (i ≤ j)) := id rfl
theorem sh_int (i : Int) : SeqAt.shaped (toP (.int i)) = true := by
  simp [toP, SeqAt.shaped, PyData.canLay0, PyData.depth]
@[simp] theorem eqO_int (i j : Int) : eqO (.int i) (.int j) = some (decide (i = j)) := by
  unfold eqO
  rw [if_pos ⟨sh_int i, sh_int j⟩]
  simp [toP, PyData.eqv, BEq.beq]
@[simp] theorem neO_int (i j : Int) : neO (.int i) (.int j) = some (!decide (i = j)) := by
  unfold neO
  rw [eqO_int]
  rfl
@[simp] theorem at_int (i : Int) : at? (.int i) = .nx (.int i) := id rfl
@[simp] theorem at_bl (i : Bool) : at? (.bl i) = .nx (.bl i) := id rfl
theorem lstD_ok {ds : List D} (h : ds.length ≤ 16777216) : lstD ds = .nx (.lst ds) := by
  unfold lstD
  rw [if_pos (by rw [szl]; exact h)]
@[simp] theorem lstD_nil : lstD [] = .nx (.lst []) := lstD_ok (by decide)
@[simp] theorem lstD_1 (a : D) : lstD [a] = .nx (.lst [a]) := lstD_ok (by simp)
@[simp] theorem lstD_2 (a b : D) : lstD [a, b] = .nx (.lst [a, b]) := lstD_ok (by simp)
@[simp] theorem lstD_3 (a b c : D) : lstD [a, b, c] = .nx (.lst [a, b, c]) := lstD_ok (by simp)
@[simp] theorem ints_all (ns : List Int) : (ns.map D.int).all D.atom = true := ints_atom ns
@[simp] theorem listD_iD (ns : List Int) : listD [iD ns] = .nx (iD ns) := by
  show (if (ns.map D.int).all D.atom = true then Rs.nx _ else .err) = _
  rw [if_pos (ints_all ns)]
/-! ### comprehensions -/
theorem compL_map {α : Type} {f : D → Rs D} {cc : D → Rs Bool} (e : α → D) (p : α → Bool) (g : α → D) : ∀ (xs : List α), (∀ x ∈ xs, cc (e x) = .nx (p x)) → (∀ x ∈ xs, p x = true → f (e x) = .nx (g x)) → compL cc f (xs.map e) = some ((xs.filter p).map g)
  | [], _, _ => rfl
  | x :: r, h1, h2 => by
    rw [List.map_cons, compL_cons, h1 x (.head _)]
    have ih := compL_map (f := f) e p g r (fun y hy => h1 y (.tail _ hy)) (fun y hy => h2 y (.tail _ hy))
    cases hp : p x with
    | true => simp [h2 x (.head _) hp, ih, List.filter_cons, hp]
    | false => simp [ih, List.filter_cons, hp]
theorem compD_map {α : Type} {f : D → Rs D} {cc : D → Rs Bool} (e : α → D) (p : α → Bool) (g : α → D) (xs : List α) (hl : xs.length ≤ 16777216) (h1 : ∀ x ∈ xs, cc (e x) = .nx (p x)) (h2 : ∀ x ∈ xs, p x = true → f (e x) = .nx (g x)) :
    compD cc f (xs.map e) = .nx (.lst ((xs.filter p).map g)) := by
  unfold compD
  rw [if_pos (by rw [szl, List.length_map]; exact hl), compL_map e p g xs h1 h2]
  rfl
theorem compS_map {α : Type} {f : D → Rs D} {cc : D → Rs Bool} (e : α → D) (p : α → Bool) (g : α → D) (xs : List α) (hl : xs.length ≤ 16777216) (h1 : ∀ x ∈ xs, cc (e x) = .nx (p x)) (h2 : ∀ x ∈ xs, p x = true → f (e x) = .nx (g x)) :
    compS cc f (.lst (xs.map e)) = .nx (.lst ((xs.filter p).map g)) := compD_map e p g xs hl h1 h2
theorem compS_all {α : Type} {f : D → Rs D} (e : α → D) (g : α → D) (xs : List α) (hl : xs.length ≤ 16777216) (h2 : ∀ x ∈ xs, f (e x) = .nx (g x)) :
    compS yes f (.lst (xs.map e)) = .nx (.lst (xs.map g)) := by
  rw [compS_map (cc := yes) e (fun _ => true) g xs hl (fun _ _ => rfl) (fun x hx _ => h2 x hx)]
  rw [List.filter_eq_self.mpr (by simp)]
/-- [list(row) for row in rows] -/
theorem copy_rD {rows : List (List Int)} (hl : rows.length ≤ 16777216) : compS yes (fun d => (Rs.nx d).bind fun x => listD [x]) (rD rows) = .nx (rD rows) :=
  compS_all iD iD rows hl fun x _ => by simp
end Sw

/- part SwM2 -/
namespace Sw
open PySem L2
/-! ### what is drawn -/
def drawn (ns : List Int) (k m : Int) : Int :=
  ((if 0 < ns.length then ns.getD (k % ns.length).toNat 0 else 7) * (48271 + 9973 * (k % 97)) + (k + 1) * (k + 3) * 16807 + ns.length) % 2147483647 / 16 % m
theorem drawn_nn (ns : List Int) (k : Int) {m : Int} (hm : 0 < m) : 0 ≤ drawn ns k m := Int.emod_nonneg _ (by omega)
theorem drawn_lt (ns : List Int) (k : Int) {m : Int} (hm : 0 < m) : drawn ns k m < m := Int.emod_lt_of_pos _ hm
theorem forU_unit {β : Type} {b : D → Unit → Out Unit Unit} {n : Nat} (h : ∀ j : Nat, j < n → b (.int j) () = .nx ()) : (forL b (upto n) () : Out β Unit) = .nx () := by
  obtain ⟨u, e, -⟩ := forU_inv (β := β) (b := b) n (fun _ _ => True) (s := ()) trivial (fun j s hj _ => ⟨(), h j hj, trivial⟩)
  exact e
theorem drawn_eq {ns : List Int} {k m : Int} (hl : ns.length ≤ 63) (hk0 : 0 ≤ k) (hk : k < 100000) (hm : 0 < m) :
    f_law_drawn (.scr ns) (.int k) (.int m) = .rt (.int (drawn ns k m)) := by
  unfold f_law_drawn
  have e1 : modD (.int k) (.int 97) = .nx (.int (k % 97)) := modD_int (by omega)
  have b1 : 0 ≤ k % 97 ∧ k % 97 < 97 := ⟨Int.emod_nonneg _ (by omega), Int.emod_lt_of_pos _ (by omega)⟩
  have e2 : mulD (.int 9973) (.int (k % 97)) = .nx (.int (9973 * (k % 97))) := mulD_int (by omega)
  have e4 : mulD (.int (k + 1)) (.int (k + 3)) = .nx (.int ((k + 1) * (k + 3))) := mulD_int (by omega)
  have e5 : mulD (.int ((k + 1) * (k + 3))) (.int 16807) = .nx (.int ((k + 1) * (k + 3) * 16807)) := mulD_int (by omega)
  have e3 : ∀ cell : Int, mulD (.int cell) (.int (48271 + 9973 * (k % 97))) = .nx (.int (cell * (48271 + 9973 * (k % 97)))) := fun cell => mulD_int (by omega)
  have e6 : ∀ a : Int, modD (.int a) (.int 2147483647) = .nx (.int (a % 2147483647)) := fun a => modD_int (by omega)
  have e7 : ∀ a : Int, divD (.int a) (.int 16) = .nx (.int (a / 16)) := fun a => divD_int (by omega) (by omega)
  have e8 : ∀ a : Int, modD (.int a) (.int m) = .nx (.int (a % m)) := fun a => modD_int hm
  by_cases c : 0 < ns.length
  · have e9 : modD (.int k) (.int (ns.length : Int)) = .nx (.int (k % ns.length)) := modD_int (by omega)
    have b9 : 0 ≤ k % ns.length ∧ k % ns.length < ns.length := ⟨Int.emod_nonneg _ (by omega), Int.emod_lt_of_pos _ (by omega)⟩
    have e10 : ixD (.scr ns) (.int (k % ns.length)) = .nx (.int (ns.getD (k % ns.length).toNat 0)) := by
      obtain ⟨j, hj⟩ := Int.eq_ofNat_of_zero_le b9.1
      rw [hj]
      have : j < ns.length := by omega
      rw [ixD_scr this]
      simp [List.getD, List.getElem?_eq_getElem this]
    have c' : (0 : Int) < ns.length := by omega
    simp [e1, e2, e3, e4, e5, e6, e7, e8, e9, e10, c, c', drawn]
  · have c' : ¬ (0 : Int) < ns.length := by omega
    simp [e1, e2, e3, e4, e5, e6, e7, e8, c, c', drawn]
/-! ### what is found against what is due -/
theorem isi_of {T : String} {d : D} {t : String} {b : Bool} (h : tyD d = some t) (h2 : kitB t T = some b) : isiO T d = some b := by
  unfold isiO
  rw [h]
  exact h2
theorem isi_int_int (i : Int) : isiO "int" (.int i) = some true := isi_of (t := "int") rfl (by decide +kernel)
theorem isi_list (ds : List D) : isiO "list" (.lst ds) = some true := isi_of (t := "list") rfl (by decide +kernel)
theorem isi_tuple (ds : List D) : isiO "tuple" (.tup ds) = some true := isi_of (t := "tuple") rfl (by decide +kernel)
theorem isi_bool_int (i : Int) : isiO "bool" (.int i) = some false := isi_of (t := "int") rfl (by decide +kernel)
theorem whole_int (i : Int) : f_law_whole (.int i) = .rt (.bl true) := by
  unfold f_law_whole
  simp [isi_int_int, isi_bool_int, andD, notD]
/-- a row of numbers and holes -/
abbrev hD : Option Int → D
  | some i => .int i
  | none => .non
theorem row_refl_h (xs : List (Option Int)) (h : xs.length ≤ 16777216) : f_law_row (.lst (xs.map hD)) (.lst (xs.map hD)) = .rt (.bl true) := by
  unfold f_law_row
  have e : neO (.int (xs.length : Int)) (.int xs.length) = some false := by simp
  simp only [isi_list, Rs.bind_nx, Rs.to_nx, Out.bind_nx, ofB_some, asB_bl, lenD_lst, List.length_map, e, ofO_some, Bool.not_true, Bool.false_eq_true, if_false, rngD1_len h]
  rw [forU_unit]
  · rfl
  · intro j hj
    rw [ixD_lst (ds := xs.map hD) (by simpa using hj)]
    simp only [List.getElem_map]
    cases xs[j] with
    | none => simp [isO, isN, isntO]
    | some i => simp [isO, isN, isntO, whole_int]
theorem row_refl {xs : List Int} (h : xs.length ≤ 16777216) : f_law_row (iD xs) (iD xs) = .rt (.bl true) := by
  have := row_refl_h (xs.map some) (by simpa using h)
  simpa [List.map_map, Function.comp_def] using this
theorem rows_refl {α : Type} (g : α → D) (rows : List α) (h : rows.length ≤ 16777216) (hr : ∀ r ∈ rows, f_law_row (g r) (g r) = .rt (.bl true)) : f_law_rows (.lst (rows.map g)) (.lst (rows.map g)) = .rt (.bl true) := by
  unfold f_law_rows
  have e : neO (.int (rows.length : Int)) (.int rows.length) = some false := by simp
  simp only [isi_list, Rs.bind_nx, Rs.to_nx, Out.bind_nx, ofB_some, asB_bl, lenD_lst, List.length_map, e, ofO_some, Bool.not_true, Bool.false_eq_true, if_false, rngD1_len h]
  rw [forU_unit]
  · rfl
  · intro j hj
    rw [ixD_lst (ds := rows.map g) (by simpa using hj)]
    simp only [List.getElem_map, Rs.bind_nx]
    rw [hr _ (List.getElem_mem _)]
    rfl
theorem rows_refl_i {rows : List (List Int)} (h : rows.length ≤ 16777216) (hr : ∀ r ∈ rows, r.length ≤ 16777216) : f_law_rows (rD rows) (rD rows) = .rt (.bl true) :=
  rows_refl iD rows h fun r hm => row_refl (hr r hm)
end Sw

/- part SwM3 -/
namespace Sw
open PySem L2
theorem forU_then {α β S : Type} {b : D → S → Out S S} {g : S → Out β α} {n : Nat} {s : S} {P : Out β α → Prop} (I : Nat → S → Prop) (h0 : I 0 s) (hb : ∀ (j : Nat) (s : S), j < n → I j s → ∃ s', b (.int j) s = .nx s' ∧ I (j + 1) s')
    (hg : ∀ s', I n s' → P (g s')) : P ((forL b (upto n) s).bind g) := by
  obtain ⟨s', e, h⟩ := forU_inv (β := β) (b := b) n I h0 hb
  rw [e]
  exact hg s' h
/-! ### changes in place -/
theorem appL_ok {ds : List D} {x : D} (h : ds.length < 16777216) : appL x ds = .nx (ds ++ [x]) := by
  unfold appL
  rw [if_pos (by rw [szl]; exact h)]
@[simp] theorem plGet_none (ds : List D) : plGet none (.lst ds) = some ds := id rfl
@[simp] theorem plPut_none (ds es : List D) : plPut none (.lst ds) es = .lst es := id rfl
theorem plGet_some {rows : List (List Int)} {j : Nat} (h : j < rows.length) : plGet (some j) (rD rows) = some (rows[j].map .int) := by
  simp [plGet, h]
theorem plPut_some {rows : List (List Int)} {j : Nat} (es : List Int) : plPut (some j) (rD rows) (es.map .int) = rD (rows.set j es) := by
  simp [plPut, List.map_set]
theorem opD_app_iD {ns : List Int} {x : Int} (h : ns.length < 16777216) : opD none appL (iD ns) (.nx (.int x)) = .nx (iD (ns ++ [x])) := by
  unfold opD
  simp [appL_ok (ds := ns.map D.int) (x := .int x) (by simpa using h)]
theorem opD_app_lst {ds : List D} {x : D} (h : ds.length < 16777216) : opD none appL (.lst ds) (.nx x) = .nx (.lst (ds ++ [x])) := by
  unfold opD
  simp [appL_ok (ds := ds) (x := x) h]
theorem opD_app_rD {rows : List (List Int)} {x : List Int} (h : rows.length < 16777216) : opD none appL (rD rows) (.nx (iD x)) = .nx (rD (rows ++ [x])) := by
  rw [opD_app_lst (by simpa using h)]
  simp
theorem opD_app_at {rows : List (List Int)} {x : Int} {j : Nat} (h : j < rows.length) (h2 : rows[j].length < 16777216) : opD (some j) appL (rD rows) (.nx (.int x)) = .nx (rD (rows.set j (rows[j] ++ [x]))) := by
  unfold opD
  rw [plGet_some h]
  simp only [Rs.bind_nx, appL_ok (ds := rows[j].map D.int) (x := .int x) (by simpa using h2)]
  rw [show rows[j].map D.int ++ [D.int x] = (rows[j] ++ [x]).map D.int by simp, plPut_some]
theorem insD_iD {ns : List Int} {i x : Int} (h : ns.length < 16777216) (h0 : 0 ≤ i) (h1 : i < 1000000) : insD none (iD ns) (.nx (.int i)) (.nx (.int x)) = .nx (iD (ns.take i.toNat ++ [x] ++ ns.drop i.toNat)) := by
  unfold insD
  simp only [plGet_none, Rs.bind_nx]
  have : insL (.int i) (.int x) (ns.map D.int) = .nx ((ns.map D.int).take i.toNat ++ [.int x] ++ (ns.map D.int).drop i.toNat) := by
    show (if (ns.map D.int).length < sizeLine ∧ 0 ≤ i ∧ i < 2 ^ 63 then Rs.nx _ else .err) = _
    rw [if_pos ⟨by rw [szl, List.length_map]; exact h, h0, by omega⟩]
  rw [this]
  simp [List.map_take, List.map_drop]
theorem setL_ok {ds : List D} {x : D} {k : Nat} (h : k < ds.length) : setL (.int (k : Int)) x ds = .nx (ds.set k x) := by
  show (match ixN ds.length (k : Int) with | some m => Rs.nx (ds.set m x) | none => .err) = _
  rw [ixN_nat h]
theorem edD_set {rows : List (List Int)} {x : Int} {j k : Nat} (h : j < rows.length) (h2 : k < rows[j].length) : edD (some j) (setL (.int (k : Int)) (.int x)) (rD rows) = .nx (rD (rows.set j (rows[j].set k x))) := by
  unfold edD
  rw [plGet_some h]
  simp only [setL_ok (ds := rows[j].map D.int) (x := .int x) (k := k) (by simpa using h2), Rs.bind_nx]
  rw [← List.map_set, plPut_some]
theorem idxD_lst {ds : List D} {j : Nat} (h : j < ds.length) : idxD (.lst ds) (.int (j : Int)) = .nx j := by
  show (match ixN ds.length (j : Int) with | some j => Rs.nx j | none => .err) = _
  rw [ixN_nat h]
theorem idxD_rD {rows : List (List Int)} {j : Nat} (h : j < rows.length) : idxD (rD rows) (.int (j : Int)) = .nx j := idxD_lst (by simpa using h)
theorem full1_iD (ns : List Int) : full 1 (iD ns) = true := ints_atom ns
theorem full2_rD (rows : List (List Int)) : full 2 (rD rows) = true := by
  show (rows.map iD).all (full 1) = true
  rw [List.all_eq_true]
  intro x hx
  obtain ⟨r, _, rfl⟩ := List.mem_map.mp hx
  exact full1_iD r
theorem full3_rDi (rows : List (List Int)) (i : Int) : full? 3 (.tup [rD rows, .int i]) = .nx (.tup [rD rows, .int i]) := by
  unfold full?
  rw [if_pos]
  show ([rD rows, D.int i] : List D).all (full 2) = true
  rw [List.all_cons, full2_rD]
  rfl
theorem full3_rDr (rows r2 : List (List Int)) : full? 3 (.tup [rD rows, rD r2]) = .nx (.tup [rD rows, rD r2]) := by
  unfold full?
  rw [if_pos]
  show ([rD rows, rD r2] : List D).all (full 2) = true
  rw [List.all_cons, full2_rD, List.all_cons, full2_rD]
  rfl
theorem catM_rD {a b : List (List Int)} (h : a.length + b.length ≤ 16777216) : catM (rD a) (rD b) = .nx (rD (a ++ b)) := by
  show (if (a.map iD).length + (b.map iD).length ≤ sizeLine then Rs.nx (D.lst (a.map iD ++ b.map iD)) else .err) = _
  rw [if_pos (by rw [szl]; simpa using h)]
  simp
theorem catD_iD {a b : List Int} (h : a.length + b.length ≤ 16777216) : catD (iD a) (iD b) = .nx (iD (a ++ b)) := by
  show (if (a.map D.int).length + (b.map D.int).length ≤ sizeLine ∧ (a.map D.int).all D.atom = true ∧ (b.map D.int).all D.atom = true then Rs.nx (D.lst (a.map D.int ++ b.map D.int)) else .err) = _
  rw [if_pos ⟨by rw [szl]; simpa using h, ints_all _, ints_all _⟩]
  simp
/-! ### the row that is drawn -/
theorem row_by_ok {ns : List Int} {b : Nat} (hl : ns.length ≤ 63) (hb : b ≤ 60) (h8 : 8 ≤ b) :
    ∃ r : List Int, f_law_row_by (.scr ns) (.int b) = .rt (iD r) ∧ r.length ≤ b ∧ r.Nodup := by
  unfold f_law_row_by
  have m9 : minD [.int 9, .int ((b : Int) + 1)] = .nx (.int 9) := by
    show Rs.nx (D.int (if (b : Int) + 1 < 9 then (b : Int) + 1 else 9)) = _
    rw [if_neg (by omega)]
  have p27 : powD (.int 10) (.int 27) = .nx (.int 1000000000000000000000000000) := by
    show (if (decide ((0 : Int) ≤ 27) && (decide ((27 : Int) ≤ 1000000) && decide ((10 : Int).natAbs < 2 ^ 64))) = true then Rs.nx (D.int (10 ^ (27 : Int).toNat)) else .err) = _
    rw [if_pos (by decide)]
    rfl
  simp only [Rs.bind_nx, intD_int, m9, drawn_eq hl (k := 0) (by omega) (by omega) (m := 9) (by omega), callN_rt, at_int, Rs.to_nx, drawn_eq hl (k := 1) (by omega) (by omega) (m := 4) (by omega), eqO_int, ofO_some]
  have hd2 : f_law_drawn (.scr ns) (.int 2) (.int ((b : Int) + 1)) = .rt (.int (drawn ns 2 (b + 1))) := drawn_eq hl (by omega) (by omega) (by omega)
  simp only [hd2, callN_rt, at_int, Rs.bind_nx, Rs.to_nx]
  obtain ⟨many, hm, hmb⟩ : ∃ many : Nat, (if (decide (drawn ns 1 4 = 1)) = true then (Out.nx (D.int (drawn ns 2 ((b : Int) + 1))) : Out Unit D) else Out.nx (D.int (drawn ns 0 9))) = .nx (.int (many : Int)) ∧ many ≤ b := by
    have a1 := drawn_nn ns 2 (m := (b : Int) + 1) (by omega)
    have a2 := drawn_lt ns 2 (m := (b : Int) + 1) (by omega)
    have a3 := drawn_nn ns 0 (m := 9) (by omega)
    have a4 := drawn_lt ns 0 (m := 9) (by omega)
    by_cases c : drawn ns 1 4 = 1
    · exact ⟨(drawn ns 2 ((b : Int) + 1)).toNat, by simp [c, Int.toNat_of_nonneg a1], by omega⟩
    · exact ⟨(drawn ns 0 9).toNat, by simp [c, Int.toNat_of_nonneg a3], by omega⟩
  rw [hm]
  have g4 := drawn_eq hl (k := 4) (by omega) (by omega) (m := 3) (by omega)
  have a1 := drawn_nn ns 4 (m := 3) (by omega)
  have a2 := drawn_lt ns 4 (m := 3) (by omega)
  obtain ⟨great, hg, hgp⟩ : ∃ great : Int, ixD (.lst [.int 1, .int 1, .int 1000000000000000000000000000]) (.int (drawn ns 4 3)) = .nx (.int great) ∧ 0 ≤ great := by
    have : drawn ns 4 3 = 0 ∨ drawn ns 4 3 = 1 ∨ drawn ns 4 3 = 2 := by omega
    rcases this with h | h | h
    · exact ⟨1, by rw [h]; exact ixD_lst0 _ _, by omega⟩
    · exact ⟨1, by rw [h]; exact ixD_lst1 _ _ _, by omega⟩
    · exact ⟨1000000000000000000000000000, by rw [h]; exact ixD_lst2 _ _ _ _, by omega⟩
  simp only [Out.bind_nx, Rs.bind_nx, drawn_eq hl (k := 3) (by omega) (by omega) (m := 2001) (by omega), callN_rt, intD_int, Rs.to_nx, p27, lstD_3, g4, hg, at_int, lstD_nil, rngD1_len (show many ≤ 16777216 by omega)]
  refine forU_then (P := fun x => ∃ r : List Int, x = Out.rt (iD r) ∧ r.length ≤ b ∧ r.Nodup) (fun (k : Nat) (s : D × D × D) => ∃ (num : Int) (o l : List Int), s = (.int num, iD o, iD l) ∧ o.Perm ((List.range k).map fun (i : Nat) => (i : Int)) ∧ l.length = k ∧ l.Pairwise (· < ·) ∧ ∀ x ∈ l, x ≤ num) ⟨_, [], [], rfl, by simp, rfl, .nil, by simp⟩ ?step ?fin
  case step =>
    rintro k s hk ⟨num, o, l, rfl, ho, hll, hlp, hln⟩
    have c1 : mulD (.int 2) (.int (k : Int)) = .nx (.int (2 * k)) := mulD_int (by omega)
    have c2 := drawn_eq hl (k := 10 + 2 * (k : Int)) (by omega) (by omega) (m := (k : Int) + 1) (by omega)
    have c3 := drawn_eq hl (k := 11 + 2 * (k : Int)) (by omega) (by omega) (m := 3) (by omega)
    have d1 := drawn_nn ns (10 + 2 * (k : Int)) (m := (k : Int) + 1) (by omega)
    have d2 := drawn_lt ns (10 + 2 * (k : Int)) (m := (k : Int) + 1) (by omega)
    have d3 := drawn_nn ns (11 + 2 * (k : Int)) (m := 3) (by omega)
    have d4 := drawn_lt ns (11 + 2 * (k : Int)) (m := 3) (by omega)
    have c4 : mulD (.int (drawn ns (11 + 2 * (k : Int)) 3)) (.int great) = .nx (.int (drawn ns (11 + 2 * (k : Int)) 3 * great)) := mulD_int (by omega)
    have ol : o.length = k := by have := ho.length_eq; simpa using this
    have c5 := insD_iD (ns := o) (i := drawn ns (10 + 2 * (k : Int)) ((k : Int) + 1)) (x := k) (by omega) d1 (by omega)
    have hgg : 0 ≤ drawn ns (11 + 2 * (k : Int)) 3 * great := Int.mul_nonneg d3 hgp
    refine ⟨_, by simp only [Rs.to_nx, Rs.bind_nx, c1, intD_int, c2, c3, callN_rt, at_int, c4, c5, opD_app_iD (ns := l) (show l.length < 16777216 by omega)]; rfl, ?_⟩
    refine ⟨_, _, _, rfl, ?_, ?_, ?_, ?_⟩
    · have : (o.take (drawn ns (10 + 2 * (k : Int)) ((k : Int) + 1)).toNat ++ [(k : Int)] ++ o.drop (drawn ns (10 + 2 * (k : Int)) ((k : Int) + 1)).toNat).Perm (o ++ [(k : Int)]) := by
        rw [List.append_assoc]
        refine ((List.Perm.append_left _ (List.perm_append_comm (l₁ := [(k : Int)]))).trans ?_)
        rw [← List.append_assoc, List.take_append_drop]
      refine this.trans ?_
      rw [List.range_succ, List.map_append]
      exact ho.append_right _
    · simp [hll]
    · rw [List.pairwise_append]
      refine ⟨hlp, by simp, fun a ha b' hb' => ?_⟩
      simp at hb'
      have := hln a ha
      omega
    · intro x hx
      rcases List.mem_append.mp hx with h | h
      · have := hln x h
        omega
      · simp at h
        omega
  rintro s' ⟨num, o, l, rfl, ho, hll, hlp, hln⟩
  have ol : o.length = many := by have := ho.length_eq; simpa using this
  have hin : ∀ k ∈ o, ∃ j : Nat, k = (j : Int) ∧ j < many := fun k hk => by
    have := ho.mem_iff.mp hk
    simp at this
    obtain ⟨j, h1, h2⟩ := this
    exact ⟨j, h2.symm, h1⟩
  have hc := compS_all (f := fun d170 => (((Rs.nx (iD l)).bind fun x171 => (Rs.nx d170).bind fun x172 => ixD x171 x172).bind at?)) D.int (fun k : Int => D.int (l.getD k.toNat 0)) o (by omega) (fun k hk => by
    obtain ⟨j, rfl, hj⟩ := hin k hk
    simp only [Rs.bind_nx]
    rw [ixD_iD (show j < l.length by omega)]
    simp [List.getD, List.getElem?_eq_getElem (show j < l.length by omega)])
  simp only [Out.bind_nx, Rs.bind_nx] at hc ⊢
  rw [hc]
  refine ⟨o.map fun k => l.getD k.toNat 0, by simp [List.map_map, Function.comp_def], by simp; omega, ?_⟩
  have hnd : o.Nodup := by
    refine ho.nodup_iff.mpr ?_
    have hr : (List.range many).Nodup := List.nodup_range
    unfold List.Nodup at hr ⊢
    rw [List.pairwise_map]
    exact hr.imp fun h => by omega
  unfold List.Nodup at hnd ⊢
  rw [List.pairwise_map]
  refine hnd.imp_of_mem ?_
  intro a b' ha hb' hne
  obtain ⟨i, rfl, hi⟩ := hin a ha
  obtain ⟨j, rfl, hj⟩ := hin b' hb'
  have hij : i ≠ j := fun h => hne (by rw [h])
  simp only [Int.toNat_natCast]
  rw [List.getD, List.getD, List.getElem?_eq_getElem (show i < l.length by omega), List.getElem?_eq_getElem (show j < l.length by omega)]
  simp only [Option.getD_some]
  rcases Nat.lt_or_gt_of_ne hij with h | h
  · have := List.pairwise_iff_getElem.mp hlp i j (by omega) (by omega) h
    omega
  · have := List.pairwise_iff_getElem.mp hlp j i (by omega) (by omega) h
    omega
end Sw

/- part SwM4 -/
namespace Sw
open PySem L2
/-! ### laying in -/
/-- the first place of a greater number -/
def pl (x : Int) (row : List Int) : Nat := row.findIdx (fun y => decide (x < y))
def layIn : List (List Int) → Int → List (List Int) × Nat
  | [], x => ([[x]], 0)
  | r :: rs, x => if pl x r < r.length then (r.set (pl x r) x :: (layIn rs (r.getD (pl x r) 0)).1, (layIn rs (r.getD (pl x r) 0)).2 + 1) else ((r ++ [x]) :: rs, 0)
theorem layIn_at : ∀ (rows : List (List Int)) (x : Int), (layIn rows x).2 ≤ rows.length
  | [], x => by simp [layIn]
  | r :: rs, x => by
    unfold layIn
    split
    · have := layIn_at rs (r.getD (pl x r) 0)
      simp only [List.length_cons]
      omega
    · simp
theorem layIn_len : ∀ (rows : List (List Int)) (x : Int), (layIn rows x).1.length = if (layIn rows x).2 = rows.length then rows.length + 1 else rows.length
  | [], x => by simp [layIn]
  | r :: rs, x => by
    unfold layIn
    split
    · have := layIn_len rs (r.getD (pl x r) 0)
      simp only [List.length_cons]
      rw [this]
      by_cases c : (layIn rs (r.getD (pl x r) 0)).2 = rs.length
      · rw [if_pos c, if_pos (by omega)]
      · rw [if_neg c, if_neg (by omega)]
    · rw [if_neg (by simp)]
      simp
theorem layIn_rows : ∀ (rows : List (List Int)) (x : Int) (m : Nat), (∀ r ∈ rows, r.length ≤ m) → ∀ r ∈ (layIn rows x).1, r.length ≤ m + 1
  | [], x, m, h => by simp [layIn]
  | r :: rs, x, m, h => by
    intro q hq
    unfold layIn at hq
    split at hq
    · rcases List.mem_cons.mp hq with e | e
      · rw [e, List.length_set]
        have := h r (.head _)
        omega
      · exact layIn_rows rs _ m (fun r hr => h r (.tail _ hr)) q e
    · rcases List.mem_cons.mp hq with e | e
      · rw [e]
        have := h r (.head _)
        simp
        exact this
      · have := h q (.tail _ e)
        omega
theorem pl_le (x : Int) (r : List Int) : pl x r ≤ r.length := List.findIdx_le_length
theorem forU_ret {α β S : Type} {b : D → S → Out S S} {g : S → Out β α} {n : Nat} {s : S} {P : Out β α → Prop} (I : Nat → S → Prop) (h0 : I 0 s)
    (hb : ∀ (j : Nat) (s : S), j < n → I j s → (∃ s', b (.int j) s = .nx s' ∧ I (j + 1) s') ∨ ∃ d, b (.int j) s = .rt d ∧ P (.rt d)) (hg : ∀ s', I n s' → P (g s')) : P ((forL b (upto n) s).bind g) := by
  have go : ∀ (m k : Nat) (s : S), k + m = n → I k s → P ((forL b ((List.range' k m).map fun (i : Nat) => D.int i) s).bind g) := by
    intro m
    induction m with
    | zero =>
      intro k s hk hi
      rw [show k = n by omega] at hi
      exact hg s hi
    | succ m ih =>
      intro k s hk hi
      rw [List.range'_succ, List.map_cons, forL_cons]
      rcases hb k s (by omega) hi with ⟨s', e, h⟩ | ⟨d, e, h⟩
      · rw [e]
        exact ih (k + 1) s' (by omega) h
      · rw [e]
        exact h
  have := go n 0 s (by omega) h0
  rw [← List.range_eq_range'] at this
  exact this
theorem whileF_run {α β S T : Type} {c : S → Rs Bool} {b : S → Out S S} {g : S → Out β α} {fuel : Nat} {P : Out β α → Prop} (I : T → S → Prop) (m : T → Nat)
    (hs : ∀ t s, I t s → (c s = .nx false ∧ P (g s)) ∨ (c s = .nx true ∧ ((∃ s' t', b s = .nx s' ∧ I t' s' ∧ m t' < m t) ∨ ∃ d, b s = .rt d ∧ P (.rt d)))) :
    ∀ {t : T} {s : S}, I t s → m t < fuel → P ((whileF c b fuel s).bind g) := by
  induction fuel with
  | zero => intro t s _ h; omega
  | succ fuel ih =>
    intro t s hi hm
    rw [whileF_succ]
    rcases hs t s hi with ⟨e, h⟩ | ⟨e, ⟨s', t', e2, h, hl⟩ | ⟨d, e2, h⟩⟩
    · rw [e]
      exact h
    · rw [e, Rs.to_nx, if_pos rfl, e2]
      exact ih h (by omega)
    · rw [e, Rs.to_nx, if_pos rfl, e2]
      exact h
theorem place_in_eq {row : List Int} (x : Int) (hl : row.length ≤ 16777216) : f_place_in (iD row) (.int x) = .rt (.int (pl x row)) := by
  unfold f_place_in
  simp only [Rs.bind_nx, lenD_lst, List.length_map, Rs.to_nx, rngD1_len hl]
  refine forU_ret (P := fun o => o = .rt (.int (pl x row))) (fun k _ => ∀ j : Nat, j < k → ¬ x < row.getD j 0) (fun j hj => by omega) ?_ ?_
  · intro k s hk hj
    rw [ixD_iD hk]
    simp only [Rs.bind_nx, gtO_int, ofO_some, Rs.to_nx]
    by_cases c : x < row[k]
    · right
      have : pl x row = k := by
        unfold pl
        rw [List.findIdx_eq hk]
        refine ⟨by simpa using c, fun j hj' => ?_⟩
        have := hj j hj'
        rw [List.getD, List.getElem?_eq_getElem (by omega), Option.getD_some] at this
        simpa using this
      simp [c, this]
    · left
      refine ⟨(), by simp [c], fun j hj' => ?_⟩
      rcases Nat.lt_or_eq_of_le (Nat.le_of_lt_succ hj') with h | h
      · exact hj j h
      · subst h
        rw [List.getD, List.getElem?_eq_getElem hk, Option.getD_some]
        exact c
  · intro _ hj
    have : pl x row = row.length := by
      rcases Nat.lt_or_ge (pl x row) row.length with h | h
      · have h1 := hj (pl x row) (by omega)
        have h2 := List.findIdx_getElem (w := h)
        simp [List.getD, List.getElem?_eq_getElem h] at h1
        simp at h2
        unfold pl at h1
        omega
      · have := pl_le x row
        omega
    simp [this]
theorem lay_in_eq {rows : List (List Int)} (x : Int) (hl : rows.length ≤ 500) (hr : ∀ r ∈ rows, r.length ≤ 1000) : f_lay_in (rD rows) (.int x) = .rt (.tup [rD (layIn rows x).1, .int (layIn rows x).2]) := by
  unfold f_lay_in
  have hc := copy_rD (rows := rows) (by omega)
  simp only [Rs.bind_nx] at hc
  simp only [Rs.bind_nx, hc, Rs.to_nx]
  refine whileF_run (P := fun o => o = .rt (.tup [rD (layIn rows x).1, .int (layIn rows x).2]))
    (fun (t : List (List Int) × List (List Int) × Int) s => s = (.int t.2.2, rD (t.1 ++ t.2.1), .int (t.1.length : Int)) ∧ t.1 ++ (layIn t.2.1 t.2.2).1 = (layIn rows x).1 ∧ t.1.length + (layIn t.2.1 t.2.2).2 = (layIn rows x).2 ∧ t.1.length + t.2.1.length ≤ 500 ∧ ∀ r ∈ t.2.1, r.length ≤ 1000)
    (fun t => t.2.1.length) ?_ (t := ([], rows, x)) ⟨by simp, by simp, by simp, by simpa using hl, hr⟩ (by show rows.length < 1000; omega)
  rintro ⟨done, rest, y⟩ s ⟨rfl, h1, h2, hd, hr⟩
  simp only at h1 h2 hd hr
  cases rest with
  | nil =>
    left
    have h3 := opD_app_rD (rows := done) (x := [y]) (by simp at hd; omega)
    refine ⟨by simp, ?_⟩
    simp only [layIn] at h1 h2
    simp only [List.append_nil, at_int, Rs.bind_nx, lstD_1]
    rw [show (D.lst [D.int y]) = iD [y] from rfl, h3]
    simp only [Rs.to_nx, Rs.bind_nx, full3_rDi, h1, ← h2]
    simp
  | cons r rest =>
    right
    have b1 : done.length < (done ++ r :: rest).length := by simp
    have hge : (done ++ r :: rest)[done.length] = r := by simp
    have hrl := hr r (.head _)
    have hix := ixD_rD (rows := done ++ r :: rest) b1
    rw [hge] at hix
    have hidx := idxD_rD (rows := done ++ r :: rest) b1
    refine ⟨by simp; omega, ?_⟩
    simp only [lenD_lst, List.length_map, Rs.bind_nx, ltO_int, ofO_some, Rs.to_nx, if_true, hix, place_in_eq y (row := r) (by omega), callN_rt, at_int, eqO_int, hidx]
    rw [layIn] at h1 h2
    by_cases c : pl y r < r.length
    · left
      rw [if_pos c] at h1 h2
      have c' : ¬ ((pl y r : Int) = (r.length : Int)) := by omega
      have hs := edD_set (rows := done ++ r :: rest) (x := y) (j := done.length) (k := pl y r) b1 (by rw [hge]; exact c)
      rw [hge] at hs
      have e : (done ++ r :: rest).set done.length (r.set (pl y r) y) = done ++ [r.set (pl y r) y] ++ rest := by simp
      rw [e] at hs
      refine ⟨_, (done ++ [r.set (pl y r) y], rest, r[pl y r]), ?_, ⟨rfl, ?_, ?_, ?_, ?_⟩, by simp⟩
      · simp only [c', decide_false, Bool.false_eq_true, if_false, Out.bind_nx, hix, Rs.bind_nx, ixD_iD c, at_int, Rs.to_nx, hidx, hs, intD_int]
        simp
      · simpa [List.getD, List.getElem?_eq_getElem c] using h1
      · simp only [List.getD, List.getElem?_eq_getElem c, Option.getD_some, List.length_append, List.length_singleton] at h2 ⊢
        omega
      · simp at hd ⊢
        omega
      · exact fun q hq => hr q (.tail _ hq)
    · right
      rw [if_neg c] at h1 h2
      have c' : pl y r = r.length := by have := pl_le y r; omega
      have hs := opD_app_at (rows := done ++ r :: rest) (x := y) (j := done.length) b1 (by rw [hge]; omega)
      rw [hge] at hs
      have e : (done ++ r :: rest).set done.length (r ++ [y]) = done ++ (r ++ [y]) :: rest := by simp
      rw [e] at hs
      refine ⟨_, by simp only [c', decide_true, if_true, Rs.to_nx, hs, full3_rDi, Rs.bind_nx, Out.bind_rt]; rfl, ?_⟩
      rw [← h1, ← h2]
      simp
end Sw

/- part SwM5 -/
namespace Sw
open PySem L2
/-! ### the law's own laying in -/
abbrev Up (row : List Int) : Prop := row.Pairwise (· ≤ ·)
abbrev Ups (rows : List (List Int)) : Prop := ∀ r ∈ rows, Up r
theorem pl_cons_lt {x y : Int} {r : List Int} (h : x < y) : pl x (y :: r) = 0 := by
  unfold pl
  rw [List.findIdx_cons]
  simp [h]
theorem pl_cons_ge {x y : Int} {r : List Int} (h : ¬ x < y) : pl x (y :: r) = pl x r + 1 := by
  unfold pl
  rw [List.findIdx_cons]
  simp [h]
theorem filter_gt : ∀ {row : List Int} (x : Int), Up row → row.filter (fun y => decide (x < y)) = row.drop (pl x row)
  | [], x, _ => rfl
  | y :: r, x, h => by
    have h' := List.pairwise_cons.mp h
    by_cases c : x < y
    · rw [pl_cons_lt c, List.drop_zero]
      rw [List.filter_eq_self.mpr]
      intro z hz
      rcases List.mem_cons.mp hz with e | e
      · rw [e]; simpa using c
      · have := h'.1 z e
        simp
        omega
    · rw [pl_cons_ge c, List.drop_succ_cons, List.filter_cons, if_neg (by simpa using c)]
      exact filter_gt x h'.2
theorem law_lay_eq {rows : List (List Int)} (x : Int) (hl : rows.length ≤ 500) (hr : ∀ r ∈ rows, r.length ≤ 1000) (hu : Ups rows) : f_law_lay (rD rows) (.int x) = .rt (.tup [rD (layIn rows x).1, .int (layIn rows x).2]) := by
  unfold f_law_lay
  have hc := copy_rD (rows := rows) (by omega)
  simp only [Rs.bind_nx] at hc
  simp only [Rs.bind_nx, hc, Rs.to_nx]
  refine whileF_run (P := fun o => o = .rt (.tup [rD (layIn rows x).1, .int (layIn rows x).2]))
    (fun (t : List (List Int) × List (List Int) × Int) s => s = (.int t.2.2, rD (t.1 ++ t.2.1), .int (t.1.length : Int)) ∧ t.1 ++ (layIn t.2.1 t.2.2).1 = (layIn rows x).1 ∧ t.1.length + (layIn t.2.1 t.2.2).2 = (layIn rows x).2 ∧ t.1.length + t.2.1.length ≤ 500 ∧ (∀ r ∈ t.2.1, r.length ≤ 1000) ∧ Ups t.2.1)
    (fun t => t.2.1.length) ?_ (t := ([], rows, x)) ⟨by simp, by simp, by simp, by simpa using hl, hr, hu⟩ (by show rows.length < 1000; omega)
  rintro ⟨done, rest, y⟩ s ⟨rfl, h1, h2, hd, hr, hu⟩
  simp only at h1 h2 hd hr
  cases rest with
  | nil =>
    left
    have h3 := catM_rD (a := done) (b := [[y]]) (by simp at hd ⊢; omega)
    refine ⟨by simp, ?_⟩
    simp only [layIn] at h1 h2
    simp only [List.append_nil, at_int, Rs.bind_nx, lstD_1]
    rw [show (D.lst [D.lst [D.int y]]) = rD [[y]] from rfl, h3]
    simp only [Rs.to_nx, Rs.bind_nx, full3_rDi, h1, ← h2]
    simp
  | cons r rest =>
    right
    have b1 : done.length < (done ++ r :: rest).length := by simp
    have hge : (done ++ r :: rest)[done.length] = r := by simp
    have hrl := hr r (.head _)
    have hix := ixD_rD (rows := done ++ r :: rest) b1
    rw [hge] at hix
    have hidx := idxD_rD (rows := done ++ r :: rest) b1
    have hcm := compS_map (f := fun x => at? x) (cc := fun x1 => ofO (gtO x1 (.int y))) D.int (fun z => decide (y < z)) D.int r (by omega) (fun z _ => by simp) (fun z _ _ => by simp)
    rw [filter_gt y (hu r (.head _))] at hcm
    refine ⟨by simp; omega, ?_⟩
    simp only [lenD_lst, List.length_map, Rs.bind_nx, ltO_int, ofO_some, Rs.to_nx, if_true, hix, hcm, callN_rt, at_int, eqO_int, hidx, List.length_drop]
    rw [layIn] at h1 h2
    by_cases c : pl y r < r.length
    · left
      rw [if_pos c] at h1 h2
      have c' : ¬ (((r.length - pl y r : Nat) : Int) = 0) := by omega
      have hs := edD_set (rows := done ++ r :: rest) (x := y) (j := done.length) (k := pl y r) b1 (by rw [hge]; exact c)
      rw [hge] at hs
      have e : (done ++ r :: rest).set done.length (r.set (pl y r) y) = done ++ [r.set (pl y r) y] ++ rest := by simp
      rw [e] at hs
      have e2 : (r.length : Int) - ((r.length - pl y r : Nat) : Int) = (pl y r : Int) := by omega
      have e3 : ixD (iD (r.drop (pl y r))) (.int 0) = .nx (.int r[pl y r]) := by
        have := ixD_iD (ns := r.drop (pl y r)) (j := 0) (by simp; omega)
        simpa using this
      refine ⟨_, (done ++ [r.set (pl y r) y], rest, r[pl y r]), ?_, ⟨rfl, ?_, ?_, ?_, ?_, ?_⟩, by simp⟩
      · simp only [c', decide_false, Bool.false_eq_true, if_false, Out.bind_nx, hix, Rs.bind_nx, lenD_lst, List.length_map, ixD_iD c, at_int, Rs.to_nx, hidx, hs, intD_int, e2, e3]
        simp
      · simpa [List.getD, List.getElem?_eq_getElem c] using h1
      · simp only [List.getD, List.getElem?_eq_getElem c, Option.getD_some, List.length_append, List.length_singleton] at h2 ⊢
        omega
      · simp at hd ⊢
        omega
      · exact fun q hq => hr q (.tail _ hq)
      · exact fun q hq => hu q (.tail _ hq)
    · right
      rw [if_neg c] at h1 h2
      have c' : ((r.length - pl y r : Nat) : Int) = 0 := by have := pl_le y r; omega
      have hs := opD_app_at (rows := done ++ r :: rest) (x := y) (j := done.length) b1 (by rw [hge]; omega)
      rw [hge] at hs
      have e : (done ++ r :: rest).set done.length (r ++ [y]) = done ++ (r ++ [y]) :: rest := by simp
      rw [e] at hs
      refine ⟨_, by simp only [c', decide_true, if_true, Rs.to_nx, hs, full3_rDi, Rs.bind_nx, Out.bind_rt]; rfl, ?_⟩
      rw [← h1, ← h2]
      simp
/-! ### rows stay sorted -/
theorem up_set : ∀ {row : List Int} (x : Int), Up row → pl x row < row.length → Up (row.set (pl x row) x)
  | [], x, _, h => by simp at h
  | y :: r, x, hu, h => by
    have h' := List.pairwise_cons.mp hu
    by_cases c : x < y
    · rw [pl_cons_lt c, List.set_cons_zero]
      exact List.pairwise_cons.mpr ⟨fun z hz => by have := h'.1 z hz; omega, h'.2⟩
    · rw [pl_cons_ge c, List.set_cons_succ]
      rw [pl_cons_ge c] at h
      refine List.pairwise_cons.mpr ⟨fun z hz => ?_, up_set x h'.2 (by simpa using h)⟩
      rcases List.mem_or_eq_of_mem_set hz with e | e
      · exact h'.1 z e
      · omega
theorem pl_none {x : Int} {row : List Int} (h : ¬ pl x row < row.length) : ∀ y ∈ row, y ≤ x := by
  have : ∀ y ∈ row, ¬ decide (x < y) = true := by
    have := pl_le x row
    have e : row.findIdx (fun y => decide (x < y)) = row.length := by
      unfold pl at h this
      omega
    exact fun y hy => by
      have := List.findIdx_eq_length.mp e y hy
      simpa using this
  exact fun y hy => by
    have := this y hy
    simp at this
    exact this
theorem up_layIn : ∀ {rows : List (List Int)} (x : Int), Ups rows → Ups (layIn rows x).1
  | [], x, _ => by simp [layIn, Ups]
  | r :: rs, x, hu => by
    intro q hq
    rw [layIn] at hq
    split at hq
    · rename_i c
      rcases List.mem_cons.mp hq with e | e
      · rw [e]
        exact up_set x (hu r (.head _)) c
      · exact up_layIn _ (fun r hr => hu r (.tail _ hr)) q e
    · rename_i c
      rcases List.mem_cons.mp hq with e | e
      · rw [e]
        exact List.pairwise_append.mpr ⟨hu r (.head _), by simp, fun a ha b hb => by
          have := pl_none c a ha
          simp at hb
          omega⟩
      · exact hu q (.tail _ e)
/-! ### a whole row laid -/
/-- second stairs: k goes to the end of row j -/
def addAt (rows : List (List Int)) (j : Nat) (k : Int) : List (List Int) := if j = rows.length then rows ++ [[k]] else rows.set j (rows.getD j [] ++ [k])
def laidS : List Int → Nat → List (List Int) × List (List Int) → List (List Int) × List (List Int)
  | [], _, s => s
  | x :: r, k, s => laidS r (k + 1) ((layIn s.1 x).1, addAt s.2 (layIn s.1 x).2 (k + 1))
def laidP (row : List Int) : List (List Int) × List (List Int) := laidS row 0 ([], [])
theorem laidS_snoc : ∀ (row : List Int) (k : Nat) (s) (x : Int), laidS (row ++ [x]) k s = ((layIn (laidS row k s).1 x).1, addAt (laidS row k s).2 (layIn (laidS row k s).1 x).2 ((k + row.length : Nat) + 1))
  | [], k, s, x => by simp [laidS]
  | y :: r, k, s, x => by
    rw [List.cons_append, laidS, laidS_snoc r (k + 1)]
    rw [laidS]
    simp only [List.length_cons]
    rw [show k + 1 + r.length = k + (r.length + 1) by omega]
structure LaidOk (n : Nat) (s : List (List Int) × List (List Int)) : Prop where
  len : s.1.length = s.2.length
  le : s.1.length ≤ n
  r1 : ∀ r ∈ s.1, r.length ≤ n
  r2 : ∀ r ∈ s.2, r.length ≤ n
  up : Ups s.1
theorem LaidOk.step {n : Nat} {s : List (List Int) × List (List Int)} (h : LaidOk n s) (x k : Int) : LaidOk (n + 1) ((layIn s.1 x).1, addAt s.2 (layIn s.1 x).2 k) := by
  have ha := layIn_at s.1 x
  have hl := layIn_len s.1 x
  have h1 := h.len
  have h2 := h.le
  refine ⟨?_, ?_, layIn_rows _ _ _ h.r1, ?_, up_layIn x h.up⟩
  · simp only
    rw [hl]
    unfold addAt
    by_cases c : (layIn s.1 x).2 = s.1.length
    · rw [if_pos c, if_pos (by omega)]
      simp [h1]
    · rw [if_neg c, if_neg (by omega)]
      simp [h1]
  · simp only
    rw [hl]
    split <;> omega
  · intro r hr
    unfold addAt at hr
    split at hr
    · rcases List.mem_append.mp hr with e | e
      · have := h.r2 r e
        omega
      · simp at e
        rw [e]
        simp
    · rcases List.mem_or_eq_of_mem_set hr with e | e
      · have := h.r2 r e
        omega
      · rw [e]
        simp only [List.length_append, List.length_singleton]
        rw [List.getD]
        cases c : s.2[(layIn s.1 x).2]? with
        | none => simp
        | some q =>
          have := h.r2 q (List.mem_of_getElem? c)
          simpa using this
theorem laidP_snoc (row : List Int) (x : Int) : laidP (row ++ [x]) = ((layIn (laidP row).1 x).1, addAt (laidP row).2 (layIn (laidP row).1 x).2 ((row.length : Int) + 1)) := by
  unfold laidP
  rw [laidS_snoc]
  simp
theorem snoc_ind {α : Type} {P : List α → Prop} (h0 : P []) (hs : ∀ l x, P l → P (l ++ [x])) (l : List α) : P l := by
  have : ∀ m : List α, P m.reverse := by
    intro m
    induction m with
    | nil => exact h0
    | cons a m ih => rw [List.reverse_cons]; exact hs _ _ ih
  have := this l.reverse
  rwa [List.reverse_reverse] at this
theorem laidP_ok (row : List Int) : LaidOk row.length (laidP row) := by
  refine snoc_ind (P := fun row => LaidOk row.length (laidP row)) ⟨rfl, by simp [laidP, laidS], by simp [laidP, laidS], by simp [laidP, laidS], by simp [laidP, laidS, Ups]⟩ (fun l x ih => ?_) row
  rw [laidP_snoc, List.length_append]
  exact ih.step x _
end Sw

/- part SwM6 -/
namespace Sw
open PySem L2
theorem take_snoc {row : List Int} {k : Nat} (h : k < row.length) : row.take (k + 1) = row.take k ++ [row[k]] := by
  rw [List.take_add_one, List.getElem?_eq_getElem h]
  rfl
theorem opD_app_nil {rows : List (List Int)} (h : rows.length < 16777216) : opD none appL (rD rows) (.nx (.lst [])) = .nx (rD (rows ++ [[]])) := opD_app_rD (x := []) h
theorem set_append_last {rows : List (List Int)} (k : Int) : (rows ++ [[]]).set rows.length (([] : List Int) ++ [k]) = rows ++ [[k]] := by simp
theorem laidP_len (row : List Int) : (laidP row).1.length ≤ row.length ∧ (laidP row).2.length = (laidP row).1.length := ⟨(laidP_ok row).le, (laidP_ok row).len.symm⟩
theorem law_laid_eq {row : List Int} (hl : row.length ≤ 400) : f_law_laid (iD row) = .rt (.tup [rD (laidP row).1, rD (laidP row).2]) := by
  unfold f_law_laid
  simp only [lstD_nil, Rs.to_nx, Rs.bind_nx, lenD_lst, List.length_map, rngD1_len (show row.length ≤ 16777216 by omega)]
  refine forU_then (P := fun o => o = .rt (.tup [rD (laidP row).1, rD (laidP row).2])) (fun k (s : D × D) => s = (rD (laidP (row.take k)).1, rD (laidP (row.take k)).2)) (by simp [laidP, laidS]) ?_ ?_
  · rintro k s hk rfl
    have hok := laidP_ok (row.take k)
    have htl : (row.take k).length = k := by simp; omega
    rw [htl] at hok
    have h1 := hok.le
    have h2 := hok.len
    have hr2 := hok.r2
    have hlay := law_lay_eq (rows := (laidP (row.take k)).1) row[k] (by omega) (fun r hr => by have := hok.r1 r hr; omega) hok.up
    have hat := layIn_at (laidP (row.take k)).1 row[k]
    refine ⟨_, ?_, rfl⟩
    rw [take_snoc hk, laidP_snoc, htl]
    generalize (laidP (row.take k)).1 = A at *
    generalize (laidP (row.take k)).2 = B at *
    simp only [Rs.bind_nx, ixD_iD hk, hlay, callN_rt, Rs.to_nx]
    show ((itemAt 0 (D.tup [rD (layIn A row[k]).1, D.int (layIn A row[k]).2])).to _ : Out _ _) = _
    rw [show itemAt 0 (D.tup [rD (layIn A row[k]).1, D.int (layIn A row[k]).2]) = .nx (rD (layIn A row[k]).1) from rfl]
    rw [show holeAt 0 (D.tup [rD (layIn A row[k]).1, D.int (layIn A row[k]).2]) = D.tup [.hole, D.int (layIn A row[k]).2] from rfl]
    simp only [Rs.to_nx, ixD_tup1, Rs.bind_nx, lenD_lst, List.length_map, eqO_int, ofO_some, intD_int]
    unfold addAt
    by_cases c : (layIn A row[k]).2 = B.length
    · have c' : (((layIn A row[k]).2 : Int) = (B.length : Int)) := by omega
      have e1 := idxD_rD (rows := B ++ [[]]) (j := B.length) (by simp)
      have e2 := opD_app_at (rows := B ++ [[]]) (x := (k : Int) + 1) (j := B.length) (by simp) (by simp)
      rw [show (B ++ [[]])[B.length]'(by simp) = [] by simp, set_append_last] at e2
      simp only [c', decide_true, if_true, opD_app_nil (rows := B) (by omega), Rs.to_nx, Out.bind_nx, e1, Rs.bind_nx, e2, if_pos c]
    · have c' : ¬ (((layIn A row[k]).2 : Int) = (B.length : Int)) := by omega
      have cl : (layIn A row[k]).2 < B.length := by omega
      have e1 := idxD_rD (rows := B) cl
      have e2 := opD_app_at (rows := B) (x := (k : Int) + 1) cl (by have := hr2 _ (List.getElem_mem cl); omega)
      simp only [c', decide_false, Bool.false_eq_true, if_false, Rs.to_nx, Out.bind_nx, e1, Rs.bind_nx, e2, if_neg c]
      simp [List.getD, List.getElem?_eq_getElem cl]
  · rintro s rfl
    rw [List.take_length]
    simp only [full3_rDr, Rs.bind_nx, Rs.to_nx]
theorem laid_eq {row : List Int} (hl : row.length ≤ 400) : f_laid (iD row) = .rt (.tup [rD (laidP row).1, rD (laidP row).2]) := by
  unfold f_laid
  simp only [lstD_nil, Rs.to_nx, Rs.bind_nx, lenD_lst, List.length_map, rngD1_len (show row.length ≤ 16777216 by omega)]
  refine forU_then (P := fun o => o = .rt (.tup [rD (laidP row).1, rD (laidP row).2])) (fun k (s : D × D) => s = (rD (laidP (row.take k)).1, rD (laidP (row.take k)).2)) (by simp [laidP, laidS]) ?_ ?_
  · rintro k s hk rfl
    have hok := laidP_ok (row.take k)
    have htl : (row.take k).length = k := by simp; omega
    rw [htl] at hok
    have h1 := hok.le
    have h2 := hok.len
    have hr2 := hok.r2
    have hlay := lay_in_eq (rows := (laidP (row.take k)).1) row[k] (by omega) (fun r hr => by have := hok.r1 r hr; omega)
    have hat := layIn_at (laidP (row.take k)).1 row[k]
    refine ⟨_, ?_, rfl⟩
    rw [take_snoc hk, laidP_snoc, htl]
    generalize (laidP (row.take k)).1 = A at *
    generalize (laidP (row.take k)).2 = B at *
    simp only [Rs.bind_nx, ixD_iD hk, hlay, callN_rt, Rs.to_nx]
    show ((itemAt 0 (D.tup [rD (layIn A row[k]).1, D.int (layIn A row[k]).2])).to _ : Out _ _) = _
    rw [show itemAt 0 (D.tup [rD (layIn A row[k]).1, D.int (layIn A row[k]).2]) = .nx (rD (layIn A row[k]).1) from rfl]
    rw [show holeAt 0 (D.tup [rD (layIn A row[k]).1, D.int (layIn A row[k]).2]) = D.tup [.hole, D.int (layIn A row[k]).2] from rfl]
    simp only [Rs.to_nx, ixD_tup1, Rs.bind_nx, lenD_lst, List.length_map, eqO_int, ofO_some, intD_int]
    unfold addAt
    by_cases c : (layIn A row[k]).2 = B.length
    · have c' : (((layIn A row[k]).2 : Int) = (B.length : Int)) := by omega
      have e1 := idxD_rD (rows := B ++ [[]]) (j := B.length) (by simp)
      have e2 := opD_app_at (rows := B ++ [[]]) (x := (k : Int) + 1) (j := B.length) (by simp) (by simp)
      rw [show (B ++ [[]])[B.length]'(by simp) = [] by simp, set_append_last] at e2
      simp only [c', decide_true, if_true, opD_app_nil (rows := B) (by omega), Rs.to_nx, Out.bind_nx, e1, Rs.bind_nx, e2, if_pos c]
    · have c' : ¬ (((layIn A row[k]).2 : Int) = (B.length : Int)) := by omega
      have cl : (layIn A row[k]).2 < B.length := by omega
      have e1 := idxD_rD (rows := B) cl
      have e2 := opD_app_at (rows := B) (x := (k : Int) + 1) cl (by have := hr2 _ (List.getElem_mem cl); omega)
      simp only [c', decide_false, Bool.false_eq_true, if_false, Rs.to_nx, Out.bind_nx, e1, Rs.bind_nx, e2, if_neg c]
      simp [List.getD, List.getElem?_eq_getElem cl]
  · rintro s rfl
    rw [List.take_length]
    simp only [full3_rDr, Rs.bind_nx, Rs.to_nx]
/-! ### least, greatest -/
theorem minD_iD {ns : List Int} (h : 0 < ns.length) : minD [iD ns] = .nx (.int (minL ns)) := by
  show (match getInts (ns.map D.int) with | some ns => (if decide (0 < ns.length) = true then Rs.nx (D.int (minL ns)) else .err) | none => .err) = _
  rw [getInts_map]
  simp [h]
theorem maxD_iD {ns : List Int} (h : 0 < ns.length) : maxD [iD ns] = .nx (.int (maxL ns)) := by
  show (match getInts (ns.map D.int) with | some ns => (if decide (0 < ns.length) = true then Rs.nx (D.int (maxL ns)) else .err) | none => .err) = _
  rw [getInts_map]
  simp [h]
theorem indexD_iD {ns : List Int} {x : Int} (h : x ∈ ns) : indexD (iD ns) (.nx (.int x)) = .nx (.int (ns.idxOf x)) := by
  show (match getInts (ns.map D.int) with | some ns => (if x ∈ ns then Rs.nx (D.int (ns.idxOf x)) else .err) | none => .err) = _
  rw [getInts_map]
  simp [h]
theorem itemOf_iD {ns : List Int} {j : Nat} (h : j < ns.length) (hl : ns.length ≤ 16777216) : itemOf (iD ns) (.int (j : Int)) = .nx (.int ns[j]) := by
  show (match ixN (ns.map D.int).length (j : Int) with | some m => if (ns.map D.int).length ≤ sizeLine then (match (ns.map D.int)[m]? with | some y => Rs.nx y | none => .err) else .err | none => .err) = _
  rw [ixN_nat (by simpa using h)]
  simp [szl, hl, h]
theorem popAtD_iD {ns : List Int} {j : Nat} (h : j < ns.length) : popAtD (iD ns) (.int (j : Int)) = iD (ns.eraseIdx j) := by
  show (match ixN (ns.map D.int).length (j : Int) with | some m => D.lst ((ns.map D.int).eraseIdx m) | none => iD ns) = _
  rw [ixN_nat (by simpa using h)]
  simp [List.eraseIdx_eq_take_drop_succ, List.map_take, List.map_drop]
theorem appAll_rD {rows : List (List Int)} (h : ∀ r ∈ rows, r.length ≤ 1000) : appAllD (rD rows) = .nx () := by
  show (if (rows.map iD).all shortL = true then Rs.nx () else .err) = _
  rw [if_pos]
  rw [List.all_eq_true]
  intro x hx
  obtain ⟨r, hr, rfl⟩ := List.mem_map.mp hx
  have := h r hr
  simp [shortL, szl]
  omega
end Sw

/- part PlA -/
/-! Words laid into rows; neighbours exchanged keep the rows. -/
namespace Sw
open PySem L2
/-- x laid into one row: the row, and what is pushed out -/
def ins : List Int → Int → List Int × Option Int
  | [], x => ([x], none)
  | c :: r, x => if x < c then (x :: r, some c) else (c :: (ins r x).1, (ins r x).2)
theorem ins_lt {c x : Int} {r : List Int} (h : x < c) : ins (c :: r) x = (x :: r, some c) := if_pos h
theorem ins_ge {c x : Int} {r : List Int} (h : ¬ x < c) : ins (c :: r) x = (c :: (ins r x).1, (ins r x).2) := if_neg h
theorem ins_pl : ∀ (r : List Int) (x : Int), ins r x = if pl x r < r.length then (r.set (pl x r) x, some (r.getD (pl x r) 0)) else (r ++ [x], none)
  | [], x => by simp [ins]
  | c :: r, x => by
    by_cases h : x < c
    · rw [ins_lt h, pl_cons_lt h]
      simp
    · rw [ins_ge h, pl_cons_ge h, ins_pl r x]
      by_cases h2 : pl x r < r.length
      · simp [h2]
      · simp [h2]
theorem layIn_cons (r : List Int) (rs : List (List Int)) (x : Int) : layIn (r :: rs) x = match ins r x with
    | (r', some b) => (r' :: (layIn rs b).1, (layIn rs b).2 + 1)
    | (r', none) => (r' :: rs, 0) := by
  rw [layIn, ins_pl]
  split <;> rfl
theorem ins_some : ∀ {r : List Int} {x b : Int} {r' : List Int}, ins r x = (r', some b) → x < b ∧ b ∈ r
  | [], x, b, r', h => by simp [ins] at h
  | c :: r, x, b, r', h => by
    by_cases hc : x < c
    · rw [ins_lt hc] at h
      cases h
      exact ⟨hc, .head _⟩
    · rw [ins_ge hc] at h
      have e : (ins r x).2 = some b := congrArg Prod.snd h
      have h2 : ins r x = ((ins r x).1, some b) := Prod.ext rfl e
      have := ins_some h2
      exact ⟨this.1, .tail _ this.2⟩
theorem ins_mem : ∀ {r : List Int} {x y : Int}, y ∈ (ins r x).1 → y = x ∨ y ∈ r
  | [], x, y, h => by simpa [ins] using h
  | c :: r, x, y, h => by
    by_cases hc : x < c
    · rw [ins_lt hc] at h
      rcases List.mem_cons.mp h with e | e
      · exact .inl e
      · exact .inr (.tail _ e)
    · rw [ins_ge hc] at h
      rcases List.mem_cons.mp h with e | e
      · exact .inr (e ▸ .head _)
      · rcases ins_mem e with e | e
        · exact .inl e
        · exact .inr (.tail _ e)
theorem ins_up : ∀ {r : List Int} (x : Int), Up r → Up (ins r x).1
  | [], x, _ => by simp [ins]
  | c :: r, x, hu => by
    have h' := List.pairwise_cons.mp hu
    by_cases hc : x < c
    · rw [ins_lt hc]
      exact List.pairwise_cons.mpr ⟨fun z hz => by have := h'.1 z hz; omega, h'.2⟩
    · rw [ins_ge hc]
      refine List.pairwise_cons.mpr ⟨fun z hz => ?_, ins_up x h'.2⟩
      rcases ins_mem hz with e | e
      · omega
      · exact h'.1 z e
/-- y, then a z that is not less -/
theorem ins_two_up : ∀ {r : List Int} {y z bz : Int}, Up r → y ≤ z → (ins (ins r y).1 z).2 = some bz → ∃ b, (ins r y).2 = some b ∧ b ≤ bz
  | [], y, z, bz, _, h, e => by
    have : ¬ z < y := by omega
    simp [ins, this] at e
  | c :: r, y, z, bz, hu, h, e => by
    have h' := List.pairwise_cons.mp hu
    by_cases hc : y < c
    · rw [ins_lt hc] at e ⊢
      rw [ins_ge (by omega : ¬ z < y)] at e
      have h2 : ins r z = ((ins r z).1, some bz) := Prod.ext rfl e
      exact ⟨c, rfl, h'.1 bz (ins_some h2).2⟩
    · rw [ins_ge hc] at e ⊢
      rw [ins_ge (by omega : ¬ z < c)] at e
      exact ins_two_up h'.2 h e
/-- z, then a lesser y -/
theorem ins_two_dn : ∀ {r : List Int} {y z : Int}, Up r → y < z → ∃ b, (ins (ins r z).1 y).2 = some b ∧ b ≤ z
  | [], y, z, _, h => ⟨z, by simp [ins, h], by omega⟩
  | c :: r, y, z, hu, h => by
    have h' := List.pairwise_cons.mp hu
    by_cases hc : z < c
    · rw [ins_lt hc, ins_lt h]
      exact ⟨z, rfl, by omega⟩
    · rw [ins_ge hc]
      by_cases hy : y < c
      · rw [ins_lt hy]
        exact ⟨c, rfl, by omega⟩
      · rw [ins_ge hy]
        exact ins_two_dn h'.2 h
/-! ### words -/
/-- a word laid into one row: the row, and the word that is pushed out -/
def rowW : List Int → List Int → List Int × List Int
  | r, [] => (r, [])
  | r, x :: w => ((rowW (ins r x).1 w).1, (ins r x).2.toList ++ (rowW (ins r x).1 w).2)
/-- a word laid into rows -/
def layW : List (List Int) → List Int → List (List Int)
  | T, [] => T
  | T, x :: w => layW (layIn T x).1 w
theorem layW_append : ∀ (T : List (List Int)) (u v : List Int), layW T (u ++ v) = layW (layW T u) v
  | T, [], v => rfl
  | T, x :: u, v => layW_append _ u v
theorem layW_cons : ∀ (w : List Int) (r : List Int) (rs : List (List Int)), layW (r :: rs) w = (rowW r w).1 :: layW rs (rowW r w).2
  | [], r, rs => rfl
  | x :: w, r, rs => by
    rw [layW, layIn_cons, rowW]
    cases h : ins r x with
    | mk r' b =>
      cases b with
      | none => exact layW_cons w r' rs
      | some b => exact layW_cons w r' (layIn rs b).1
theorem layW_nil (x : Int) (w : List Int) : layW [] (x :: w) = (rowW [] (x :: w)).1 :: layW [] (rowW [] (x :: w)).2 := by
  show layW [[x]] w = _
  rw [layW_cons]
  rfl
/-- three neighbours that may be exchanged -/
def KR (w w' : List Int) : Prop := ∃ x y z, (x < y ∧ y ≤ z ∧ w = [y, x, z] ∧ w' = [y, z, x]) ∨ (x ≤ y ∧ y < z ∧ w = [x, z, y] ∧ w' = [z, x, y])
def KS (w w' : List Int) : Prop := KR w w' ∨ KR w' w
theorem KS.symm {w w' : List Int} (h : KS w w') : KS w' w := h.elim .inr .inl
theorem row3 (r : List Int) (a b c : Int) : rowW r [a, b, c] = ((ins (ins (ins r a).1 b).1 c).1, (ins r a).2.toList ++ ((ins (ins r a).1 b).2.toList ++ (ins (ins (ins r a).1 b).1 c).2.toList)) := by
  simp [rowW]
/-- y x z and y z x -/
theorem rowA : ∀ {r : List Int} {x y z : Int}, Up r → x < y → y ≤ z → (rowW r [y, x, z]).1 = (rowW r [y, z, x]).1 ∧ ((rowW r [y, x, z]).2 = (rowW r [y, z, x]).2 ∨ KS (rowW r [y, x, z]).2 (rowW r [y, z, x]).2)
  | [], x, y, z, _, h1, h2 => by
    have a : ¬ z < x := by omega
    have b : ¬ z < y := by omega
    simp [rowW, ins, h1, a, b]
  | c :: r, x, y, z, hu, h1, h2 => by
    have h' := List.pairwise_cons.mp hu
    rw [row3, row3]
    by_cases hy : y < c
    · rw [ins_lt hy]
      simp only
      rw [ins_lt h1, ins_ge (by omega : ¬ z < y)]
      simp only
      rw [ins_ge (by omega : ¬ z < x), ins_lt h1]
      refine ⟨rfl, ?_⟩
      cases hz : (ins r z).2 with
      | none => left; simp
      | some b =>
        have h3 : ins r z = ((ins r z).1, some b) := Prod.ext rfl hz
        have h4 := h'.1 b (ins_some h3).2
        right; left
        exact ⟨y, c, b, .inl ⟨hy, h4, by simp, by simp⟩⟩
    · rw [ins_ge hy]
      simp only
      by_cases hx : x < c
      · rw [ins_lt hx, ins_ge (by omega : ¬ z < c)]
        simp only
        rw [ins_ge (by omega : ¬ z < x), ins_lt hx]
        refine ⟨rfl, ?_⟩
        cases hz : (ins (ins r y).1 z).2 with
        | none => left; simp [hz]
        | some b =>
          obtain ⟨b', e1, e2⟩ := ins_two_up h'.2 h2 hz
          have h3 : ins r y = ((ins r y).1, some b') := Prod.ext rfl e1
          have h4 := ins_some h3
          right; left
          exact ⟨c, b', b, .inl ⟨by omega, e2, by simp [e1, hz], by simp [e1, hz]⟩⟩
      · have ih := rowA h'.2 h1 h2
        rw [row3, row3] at ih
        rw [ins_ge hx, ins_ge (by omega : ¬ z < c)]
        simp only
        rw [ins_ge (by omega : ¬ z < c), ins_ge hx]
        exact ⟨by simp only; rw [ih.1], ih.2⟩
/-- x z y and z x y -/
theorem rowB : ∀ {r : List Int} {x y z : Int}, Up r → x ≤ y → y < z → (rowW r [x, z, y]).1 = (rowW r [z, x, y]).1 ∧ ((rowW r [x, z, y]).2 = (rowW r [z, x, y]).2 ∨ KS (rowW r [x, z, y]).2 (rowW r [z, x, y]).2)
  | [], x, y, z, _, h1, h2 => by
    have a : ¬ z < x := by omega
    have b : ¬ y < x := by omega
    have c : x < z := by omega
    simp [rowW, ins, h2, a, b, c]
  | c :: r, x, y, z, hu, h1, h2 => by
    have h' := List.pairwise_cons.mp hu
    rw [row3, row3]
    by_cases hx : x < c
    · rw [ins_lt hx]
      simp only
      rw [ins_ge (by omega : ¬ z < x)]
      simp only
      rw [ins_ge (by omega : ¬ y < x)]
      by_cases hz : z < c
      · rw [ins_lt hz]
        simp only
        rw [ins_lt (by omega : x < z)]
        simp only
        rw [ins_ge (by omega : ¬ y < x)]
        cases r with
        | nil => simp [ins, h2]
        | cons d r =>
          have hd := h'.1 d (.head _)
          rw [ins_lt (by omega : z < d), ins_lt (by omega : y < d)]
          simp only
          rw [ins_lt h2]
          refine ⟨rfl, .inr (.inr ⟨z, c, d, .inl ⟨hz, hd, by simp, by simp⟩⟩)⟩
      · rw [ins_ge hz]
        simp only
        rw [ins_lt hx]
        simp only
        rw [ins_ge (by omega : ¬ y < x)]
        refine ⟨rfl, ?_⟩
        obtain ⟨b', e1, e2⟩ := ins_two_dn (r := r) h'.2 h2
        cases hz2 : (ins r z).2 with
        | none => left; simp [hz2]
        | some b =>
          have h3 : ins r z = ((ins r z).1, some b) := Prod.ext rfl hz2
          have h4 := ins_some h3
          have h5 : ins (ins r z).1 y = ((ins (ins r z).1 y).1, some b') := Prod.ext rfl e1
          have h6 := (ins_some h5).2
          have h7 : c ≤ b' := by
            rcases ins_mem h6 with e | e
            · omega
            · exact h'.1 b' e
          right; left
          exact ⟨c, b', b, .inr ⟨h7, by omega, by simp [e1, hz2], by simp [e1, hz2]⟩⟩
    · have ih := rowB h'.2 h1 h2
      rw [row3, row3] at ih
      rw [ins_ge hx, ins_ge (by omega : ¬ z < c)]
      simp only
      rw [ins_ge (by omega : ¬ z < c), ins_ge hx]
      simp only
      rw [ins_ge (by omega : ¬ y < c), ins_ge (by omega : ¬ y < c)]
      exact ⟨by simp only; rw [ih.1], ih.2⟩
theorem row_KS {r w w' : List Int} (hu : Up r) (h : KS w w') : (rowW r w).1 = (rowW r w').1 ∧ ((rowW r w).2 = (rowW r w').2 ∨ KS (rowW r w).2 (rowW r w').2) := by
  rcases h with ⟨x, y, z, ⟨h1, h2, rfl, rfl⟩ | ⟨h1, h2, rfl, rfl⟩⟩ | ⟨x, y, z, ⟨h1, h2, rfl, rfl⟩ | ⟨h1, h2, rfl, rfl⟩⟩
  · exact rowA hu h1 h2
  · exact rowB hu h1 h2
  · have := rowA hu h1 h2
    exact ⟨this.1.symm, this.2.elim (fun e => .inl e.symm) fun e => .inr e.symm⟩
  · have := rowB hu h1 h2
    exact ⟨this.1.symm, this.2.elim (fun e => .inl e.symm) fun e => .inr e.symm⟩
theorem layW_KR0 {w w' : List Int} (h : KR w w') : layW [] w = layW [] w' := by
  rcases h with ⟨x, y, z, ⟨h1, h2, rfl, rfl⟩ | ⟨h1, h2, rfl, rfl⟩⟩
  · have a : ¬ z < x := by omega
    have b : ¬ z < y := by omega
    rw [layW_nil, layW_nil]
    simp [rowW, ins, h1, a, b]
  · have a : ¬ z < x := by omega
    have b : ¬ y < x := by omega
    have c : x < z := by omega
    rw [layW_nil, layW_nil]
    simp [rowW, ins, h2, a, b, c]
theorem layW_KS : ∀ {T : List (List Int)} {w w' : List Int}, Ups T → KS w w' → layW T w = layW T w'
  | [], w, w', _, h => h.elim layW_KR0 fun h => (layW_KR0 h).symm
  | r :: rs, w, w', hu, h => by
    obtain ⟨e, h2⟩ := row_KS (hu r (.head _)) h
    rw [layW_cons, layW_cons, e]
    congr 1
    rcases h2 with h2 | h2
    · rw [h2]
    · exact layW_KS (fun q hq => hu q (.tail _ hq)) h2
theorem ups_layW : ∀ {T : List (List Int)} (w : List Int), Ups T → Ups (layW T w)
  | T, [], h => h
  | T, x :: w, h => ups_layW w (up_layIn x h)
/-- neighbours exchanged anywhere -/
inductive Kn : List Int → List Int → Prop
  | refl (w) : Kn w w
  | step {w w' : List Int} (u v : List Int) {a b : List Int} : KS a b → w = u ++ (a ++ v) → Kn (u ++ (b ++ v)) w' → Kn w w'
theorem Kn.lay {w w' : List Int} (h : Kn w w') : layW [] w = layW [] w' := by
  induction h with
  | refl => rfl
  | step u v hk e _ ih =>
    rw [e, ← ih, layW_append, layW_append, layW_append, layW_append, layW_KS (ups_layW u (by simp [Ups])) hk]
theorem laidP_layW (row : List Int) : (laidP row).1 = layW [] row := by
  refine snoc_ind (P := fun row => (laidP row).1 = layW [] row) rfl (fun l x ih => ?_) row
  rw [laidP_snoc, layW_append, ← ih]
  rfl
end Sw

/- part PlB -/
/-! Stairs; their reading; every word comes by exchanges to the reading of its stairs. -/
namespace Sw
open PySem L2
/-! ### exchanges anywhere -/
theorem Kn.trans {a b c : List Int} (h : Kn a b) (h2 : Kn b c) : Kn a c := by
  induction h with
  | refl => exact h2
  | step u v hk e _ ih => exact .step u v hk e (ih h2)
theorem Kn.one {a b : List Int} (u v : List Int) (h : KS a b) : Kn (u ++ (a ++ v)) (u ++ (b ++ v)) := .step u v h rfl (.refl _)
theorem Kn.symm {a b : List Int} (h : Kn a b) : Kn b a := by
  induction h with
  | refl => exact .refl _
  | step u v hk e _ ih => exact ih.trans (e ▸ Kn.one u v hk.symm)
theorem Kn.ctx {a b : List Int} (u v : List Int) (h : Kn a b) : Kn (u ++ (a ++ v)) (u ++ (b ++ v)) := by
  induction h with
  | refl => exact .refl _
  | step u' v' hk e _ ih =>
    refine .step (u ++ u') (v' ++ v) hk (by rw [e]; simp) ?_
    simpa using ih
theorem Kn.left {a b : List Int} (u : List Int) (h : Kn a b) : Kn (u ++ a) (u ++ b) := by simpa using h.ctx u []
theorem Kn.right {a b : List Int} (v : List Int) (h : Kn a b) : Kn (a ++ v) (b ++ v) := by simpa using h.ctx [] v
theorem Kn.cons {a b : List Int} (x : Int) (h : Kn a b) : Kn (x :: a) (x :: b) := h.left [x]
theorem KR.perm {a b : List Int} (h : KR a b) : a.Perm b := by
  obtain ⟨x, y, z, ⟨_, _, rfl, rfl⟩ | ⟨_, _, rfl, rfl⟩⟩ := h
  · exact .cons _ (.swap _ _ _)
  · exact .swap _ _ _
theorem KS.perm {a b : List Int} (h : KS a b) : a.Perm b := h.elim KR.perm fun h => h.perm.symm
theorem Kn.perm {a b : List Int} (h : Kn a b) : a.Perm b := by
  induction h with
  | refl => exact .refl _
  | step u v hk e _ ih =>
    rw [e]
    exact (List.Perm.append_left _ (List.Perm.append_right _ hk.perm)).trans ih
/-- c .. x with x less than all of these: x goes next to c -/
theorem kn_head : ∀ (r : List Int) (c x : Int), Up (c :: r) → x < c → Kn (c :: (r ++ [x])) (c :: x :: r)
  | [], c, x, _, _ => .refl _
  | e :: r, c, x, hu, h => by
    have h' := List.pairwise_cons.mp hu
    have hce := h'.1 e (.head _)
    refine ((kn_head r e x h'.2 (by omega)).cons c).trans ?_
    exact Kn.one (a := [c, e, x]) (b := [c, x, e]) [] r (.inr ⟨x, c, e, .inl ⟨h, hce, rfl, rfl⟩⟩)
/-- a row and a number behind it, and what comes of laying it in -/
theorem kn_ins : ∀ (r : List Int) (x : Int), Up r → Kn (r ++ [x]) ((ins r x).2.toList ++ (ins r x).1)
  | [], x, _ => by simpa [ins] using Kn.refl _
  | c :: r, x, hu => by
    have h' := List.pairwise_cons.mp hu
    by_cases h : x < c
    · rw [ins_lt h]
      exact kn_head r c x hu h
    · rw [ins_ge h]
      have ih := (kn_ins r x h'.2).cons c
      cases hb : (ins r x).2 with
      | none =>
        rw [hb] at ih
        exact ih
      | some b =>
        rw [hb] at ih
        refine ih.trans ?_
        have e1 : ins r x = ((ins r x).1, some b) := Prod.ext rfl hb
        have hxb := (ins_some e1).1
        cases r with
        | nil => simp [ins] at hb
        | cons d r =>
          by_cases hd : x < d
          · rw [ins_lt hd] at hb ⊢
            simp only [Option.some.injEq] at hb
            subst hb
            exact Kn.one (a := [c, d, x]) (b := [d, c, x]) [] r (.inl ⟨c, x, d, .inr ⟨by omega, hd, rfl, rfl⟩⟩)
          · rw [ins_ge hd]
            have hcd := h'.1 d (.head _)
            exact Kn.one (a := [c, b, d]) (b := [b, c, d]) [] (ins r x).1 (.inl ⟨c, d, b, .inr ⟨hcd, by omega, rfl, rfl⟩⟩)
/-! ### readings -/
def rdg : List (List Int) → List Int
  | [] => []
  | r :: rs => rdg rs ++ r
theorem kn_lay : ∀ (T : List (List Int)) (x : Int), Ups T → Kn (rdg T ++ [x]) (rdg (layIn T x).1)
  | [], x, _ => by simpa [rdg, layIn] using Kn.refl _
  | r :: rs, x, hu => by
    rw [layIn_cons]
    have h1 := (kn_ins r x (hu r (.head _))).left (rdg rs)
    cases hb : ins r x with
    | mk r' b =>
      rw [hb] at h1
      cases b with
      | none => simpa [rdg] using h1
      | some b =>
        have h2 := (kn_lay rs b (fun q hq => hu q (.tail _ hq))).right r'
        have h1 : Kn (rdg rs ++ (r ++ [x])) (rdg rs ++ (b :: r')) := h1
        have h2 : Kn (rdg rs ++ [b] ++ r') (rdg (layIn rs b).1 ++ r') := h2
        show Kn (rdg rs ++ r ++ [x]) (rdg (layIn rs b).1 ++ r')
        rw [List.append_assoc]
        refine h1.trans ?_
        simpa using h2
theorem kn_layW : ∀ (w : List Int) (T : List (List Int)), Ups T → Kn (rdg T ++ w) (rdg (layW T w))
  | [], T, _ => by simpa [layW] using Kn.refl _
  | x :: w, T, hu => by
    have h1 := (kn_lay T x hu).right w
    have h2 := kn_layW w (layIn T x).1 (up_layIn x hu)
    rw [layW]
    refine Kn.trans ?_ h2
    simpa using h1
/-- every word comes to the reading of its stairs -/
theorem kn_rdg (w : List Int) : Kn w (rdg (layW [] w)) := kn_layW w [] (by simp [Ups])
theorem lay_iff {w v : List Int} : layW [] w = layW [] v ↔ Kn w v :=
  ⟨fun h => (kn_rdg w).trans (h ▸ (kn_rdg v).symm), fun h => h.lay⟩
/-! ### stairs -/
/-- l lies below u: no longer, each number greater than the one above -/
def Dom : List Int → List Int → Prop
  | _, [] => True
  | [], _ :: _ => False
  | a :: u, b :: l => a < b ∧ Dom u l
@[simp] theorem Dom_nil (u : List Int) : Dom u [] := by cases u <;> exact True.intro
theorem Dom.len : ∀ {u l : List Int}, Dom u l → l.length ≤ u.length
  | u, [], _ => by simp
  | [], b :: l, h => h.elim
  | a :: u, b :: l, h => by
    have := Dom.len h.2
    simpa using this
theorem Dom.get : ∀ {u l : List Int}, Dom u l → ∀ (j : Nat) (h1 : j < l.length) (h2 : j < u.length), u[j] < l[j]
  | a :: u, b :: l, h, 0, _, _ => h.1
  | a :: u, b :: l, h, j + 1, h1, h2 => by
    simpa using Dom.get h.2 j (by simpa using h1) (by simpa using h2)
theorem Dom.snoc : ∀ {u l : List Int} (x : Int), Dom u l → Dom (u ++ [x]) l
  | u, [], x, _ => Dom_nil _
  | [], b :: l, x, h => h.elim
  | a :: u, b :: l, x, h => ⟨h.1, Dom.snoc x h.2⟩
theorem Dom.ins_up : ∀ {u l : List Int} (x : Int), Dom u l → Dom (ins u x).1 l
  | u, [], x, _ => Dom_nil _
  | [], b :: l, x, h => h.elim
  | a :: u, b :: l, x, h => by
    by_cases c : x < a
    · rw [ins_lt c]
      exact ⟨by have := h.1; omega, h.2⟩
    · rw [ins_ge c]
      exact ⟨h.1, Dom.ins_up x h.2⟩
theorem Dom.ins : ∀ {u l : List Int} {x b : Int}, Up u → Dom u l → (ins u x).2 = some b → Dom (ins u x).1 (ins l b).1
  | [], l, x, b, _, _, e => by simp [Sw.ins] at e
  | a :: u, [], x, b, hu, h, e => by
    show Dom _ [b]
    have e1 : Sw.ins (a :: u) x = ((Sw.ins (a :: u) x).1, some b) := Prod.ext rfl e
    have hx := (ins_some e1).1
    by_cases c : x < a
    · rw [ins_lt c] at e ⊢
      simp only [Option.some.injEq] at e
      subst e
      exact ⟨c, Dom_nil _⟩
    · rw [ins_ge c]
      exact ⟨by omega, Dom_nil _⟩
  | a :: u, d :: l, x, b, hu, h, e => by
    have h' := List.pairwise_cons.mp hu
    by_cases c : x < a
    · rw [ins_lt c] at e ⊢
      simp only [Option.some.injEq] at e
      subst e
      rw [ins_lt h.1]
      exact ⟨c, h.2⟩
    · have e1 : Sw.ins (a :: u) x = ((Sw.ins (a :: u) x).1, some b) := Prod.ext rfl e
      have hx := (ins_some e1).1
      rw [ins_ge c] at e ⊢
      simp only at e
      by_cases c2 : b < d
      · rw [ins_lt c2]
        exact ⟨by omega, h.2.ins_up x⟩
      · rw [ins_ge c2]
        exact ⟨h.1, Dom.ins h'.2 h.2 e⟩
/-- stairs: no row is empty, the rows rise, each lies below the one ahead -/
def Tab : List (List Int) → Prop
  | [] => True
  | [r] => r ≠ [] ∧ Up r
  | r :: s :: T => r ≠ [] ∧ Up r ∧ Dom r s ∧ Tab (s :: T)
theorem ins_ne (r : List Int) (x : Int) : (ins r x).1 ≠ [] := by
  cases r with
  | nil => simp [ins]
  | cons c r =>
    by_cases h : x < c
    · rw [ins_lt h]; simp
    · rw [ins_ge h]; simp
theorem Tab.tail {r : List Int} {T : List (List Int)} (h : Tab (r :: T)) : Tab T := by
  cases T with
  | nil => exact True.intro
  | cons s T => exact h.2.2.2
theorem Tab.head {r : List Int} {T : List (List Int)} (h : Tab (r :: T)) : r ≠ [] ∧ Up r := by
  cases T with
  | nil => exact h
  | cons s T => exact ⟨h.1, h.2.1⟩
theorem Tab.ups : ∀ {T : List (List Int)}, Tab T → Ups T
  | [], _ => by simp [Ups]
  | r :: T, h => fun q hq => (List.mem_cons.mp hq).elim (fun e => e ▸ h.head.2) fun m => h.tail.ups q m
theorem tab_lay : ∀ {T : List (List Int)} (x : Int), Tab T → Tab (layIn T x).1
  | [], x, _ => by simp [layIn, Tab]
  | [r], x, h => by
    rw [layIn_cons]
    cases hb : ins r x with
    | mk r' b =>
      have h1 := ins_up x h.2
      have h2 := ins_ne r x
      rw [hb] at h1 h2
      cases b with
      | none => exact ⟨h2, h1⟩
      | some b =>
        have h3 : Dom (ins r x).1 (ins [] b).1 := Dom.ins h.2 (Dom_nil _) (by rw [hb])
        rw [hb] at h3
        exact ⟨h2, h1, h3, by simp [layIn, Tab]⟩
  | r :: s :: T, x, h => by
    rw [layIn_cons]
    cases hb : ins r x with
    | mk r' b =>
      have h1 := ins_up x h.2.1
      have h2 := ins_ne r x
      have h4 := h.2.2.1.ins_up x
      rw [hb] at h1 h2 h4
      cases b with
      | none => exact ⟨h2, h1, h4, h.2.2.2⟩
      | some b =>
        have ih := tab_lay b h.2.2.2
        have h3 : Dom (ins r x).1 (ins s b).1 := Dom.ins h.2.1 h.2.2.1 (by rw [hb])
        rw [hb] at h3
        have e : (layIn (s :: T) b).1 = (ins s b).1 :: (layIn (s :: T) b).1.tail := by
          rw [layIn_cons]
          cases ins s b with
          | mk s' c => cases c <;> rfl
        show Tab (r' :: (layIn (s :: T) b).1)
        rw [e] at ih ⊢
        exact ⟨h2, h1, h3, ih⟩
theorem tab_layW : ∀ (w : List Int) {T : List (List Int)}, Tab T → Tab (layW T w)
  | [], T, h => h
  | x :: w, T, h => tab_layW w (tab_lay x h)
theorem tab_laid (w : List Int) : Tab (layW [] w) := tab_layW w True.intro
/-! ### the reading of stairs, laid -/
theorem rowW_nil_up : ∀ (w r : List Int), Up (r ++ w) → rowW r w = (r ++ w, [])
  | [], r, _ => by simp [rowW]
  | x :: w, r, h => by
    have hx : ∀ y ∈ r, ¬ x < y := fun y hy => by
      have := (List.pairwise_append.mp h).2.2 y hy x (.head _)
      omega
    have e : ins r x = (r ++ [x], none) := by
      clear h
      induction r with
      | nil => rfl
      | cons c r ih =>
        rw [ins_ge (hx c (.head _)), ih fun y hy => hx y (.tail _ hy)]
        rfl
    rw [rowW, e]
    have := rowW_nil_up w (r ++ [x]) (by simpa using h)
    rw [this]
    simp
theorem rowW_pass : ∀ (w : List Int) (c : Int) (r : List Int), (∀ x ∈ w, c ≤ x) → rowW (c :: r) w = (c :: (rowW r w).1, (rowW r w).2)
  | [], c, r, _ => rfl
  | x :: w, c, r, h => by
    rw [rowW, rowW, ins_ge (by have := h x (.head _); omega)]
    simp only
    rw [rowW_pass w c _ fun y hy => h y (.tail _ hy)]
theorem rowW_dom : ∀ {u l : List Int}, Up u → Dom u l → rowW l u = (u, l)
  | u, [], hu, _ => by rw [rowW_nil_up u [] hu]; simp
  | [], b :: l, _, h => h.elim
  | a :: u, b :: l, hu, h => by
    have h' := List.pairwise_cons.mp hu
    rw [rowW, ins_lt h.1]
    simp only
    rw [rowW_pass u a l h'.1, rowW_dom h'.2 h.2]
    rfl
theorem layW_down : ∀ {T : List (List Int)} {u : List Int}, Tab (u :: T) → layW T u = u :: T
  | [], u, h => by
    obtain ⟨x, w, rfl⟩ := List.exists_cons_of_ne_nil h.1
    rw [layW_nil, rowW_nil_up _ [] h.2]
    rfl
  | r :: T, u, h => by
    rw [layW_cons, rowW_dom h.2.1 h.2.2.1, layW_down h.2.2.2]
theorem lay_rdg : ∀ {T : List (List Int)}, Tab T → layW [] (rdg T) = T
  | [], _ => rfl
  | r :: T, h => by
    rw [rdg, layW_append, lay_rdg h.tail, layW_down h]
end Sw

/- part SwM7 -/
namespace Sw
open PySem L2
/-! ### slices -/
theorem sIx_none (n d : Nat) : HT.sIx n d none = d := rfl
theorem sIx_nat (n d a : Nat) : HT.sIx n d (some (a : Int)) = min a n := by
  show (if (a : Int) < 0 then ((a : Int) + n).toNat else min (a : Int).toNat n) = _
  rw [if_neg (by omega)]
  simp
theorem cutD_iD (ns : List Int) (lo hi : Option Int) : cutD (iD ns) lo hi = .nx (iD ((ns.drop (HT.sIx ns.length 0 lo)).take (HT.sIx ns.length ns.length hi - HT.sIx ns.length 0 lo))) := by
  show (if (ns.map D.int).all D.atom = true then Rs.nx (D.lst (cutL (ns.map D.int) lo hi)) else .err) = _
  rw [if_pos (ints_all ns)]
  unfold cutL
  rw [List.length_map, ← List.map_drop, ← List.map_take]
theorem cut_to (ns : List Int) (a : Nat) : cutD (iD ns) none (some (a : Int)) = .nx (iD (ns.take a)) := by
  rw [cutD_iD, sIx_none, sIx_nat, List.drop_zero, Nat.sub_zero]
  rcases Nat.le_total a ns.length with h | h
  · rw [Nat.min_eq_left h]
  · rw [Nat.min_eq_right h, List.take_length, List.take_of_length_le h]
theorem cut_from (ns : List Int) (a : Nat) : cutD (iD ns) (some (a : Int)) none = .nx (iD (ns.drop a)) := by
  rw [cutD_iD, sIx_none, sIx_nat]
  rw [List.take_of_length_le (by simp)]
  rcases Nat.le_total a ns.length with h | h
  · rw [Nat.min_eq_left h]
  · rw [Nat.min_eq_right h, List.drop_length, List.drop_of_length_le h]
theorem cut_two {ns : List Int} {a : Nat} (h : a + 1 < ns.length) : cutD (iD ns) (some (a : Int)) (some ((a : Int) + 2)) = .nx (iD [ns[a], ns[a + 1]]) := by
  rw [show ((a : Int) + 2) = ((a + 2 : Nat) : Int) by omega, cutD_iD, sIx_nat, sIx_nat, Nat.min_eq_left (by omega), Nat.min_eq_left (by omega)]
  rw [show a + 2 - a = 2 by omega, List.drop_eq_getElem_cons (by omega : a < ns.length), List.drop_eq_getElem_cons h]
  rfl
/-! ### neighbours exchanged -/
def lo2 (x y : Int) : Int := if y < x then y else x
def hi2 (x y : Int) : Int := if y > x then y else x
theorem minD_2 (x y : Int) : minD [.int x, .int y] = .nx (.int (lo2 x y)) := id rfl
theorem maxD_2 (x y : Int) : maxD [.int x, .int y] = .nx (.int (hi2 x y)) := id rfl
theorem minL_2 (x y : Int) : minL [x, y] = lo2 x y := by
  show min x y = _
  unfold lo2
  split <;> omega
theorem maxL_2 (x y : Int) : maxL [x, y] = hi2 x y := by
  show max x y = _
  unfold hi2
  split <;> omega
def btw (x y z : Int) : Bool := decide (lo2 x y < z) && decide (z < hi2 x y)
def mayX (row : List Int) (a : Nat) : Bool := (decide (0 < a) && btw (row.getD a 0) (row.getD (a + 1) 0) (row.getD (a - 1) 0)) || (decide (a + 2 < row.length) && btw (row.getD a 0) (row.getD (a + 1) 0) (row.getD (a + 2) 0))
def exch (row : List Int) (a : Nat) : List Int := row.take a ++ [row.getD (a + 1) 0, row.getD a 0] ++ row.drop (a + 2)
def nextX (row : List Int) : List (List Int) := ((List.range (row.length - 1)).filter (mayX row)).map (exch row)
theorem exch_len {row : List Int} {a : Nat} (h : a + 1 < row.length) : (exch row a).length = row.length := by
  unfold exch
  simp
  omega
theorem getD_at {row : List Int} {a : Nat} (h : a < row.length) : row.getD a 0 = row[a] := by
  simp [List.getD, List.getElem?_eq_getElem h]
theorem ixD_getD {row : List Int} {a : Nat} (h : a < row.length) : ixD (iD row) (.int (a : Int)) = .nx (.int (row.getD a 0)) := by
  rw [ixD_iD h, getD_at h]
theorem may_eq {row : List Int} {a : Nat} (h : a + 1 < row.length) : f_may_exchange (iD row) (.int (a : Int)) = .rt (.bl (mayX row a)) := by
  unfold f_may_exchange
  have i0 := ixD_getD (row := row) (a := a) (by omega)
  have i1 := ixD_getD (row := row) (a := a + 1) h
  rw [show ((a + 1 : Nat) : Int) = (a : Int) + 1 by omega] at i1
  simp only [Rs.bind_nx, i0, intD_int, i1, minD_2, maxD_2, Rs.to_nx, gtO_int, ofO_some, lenD_lst, List.length_map, ltO_int, ofB_some]
  have tail : ((andD (.bl (decide ((a : Int) + 2 < (row.length : Int)))) ((ixD (iD row) (.int ((a : Int) + 2))).bind (fun x47 => ofB (ltO (.int (lo2 (row.getD a 0) (row.getD (a + 1) 0))) x47)) |>.bind fun x48 => andD x48 ((ixD (iD row) (.int ((a : Int) + 2))).bind fun x40 => ofB (ltO x40 (.int (hi2 (row.getD a 0) (row.getD (a + 1) 0)))))))) = .nx (.bl (decide (a + 2 < row.length) && btw (row.getD a 0) (row.getD (a + 1) 0) (row.getD (a + 2) 0))) := by
    by_cases c : a + 2 < row.length
    · have i2 := ixD_getD (row := row) (a := a + 2) c
      rw [show ((a + 2 : Nat) : Int) = (a : Int) + 2 by omega] at i2
      have c' : (a : Int) + 2 < (row.length : Int) := by omega
      simp only [c', decide_true, andD, i2, Rs.bind_nx, ltO_int, ofB_some, c, Bool.true_and, btw]
      cases decide (lo2 (row.getD a 0) (row.getD (a + 1) 0) < row.getD (a + 2) 0) <;> simp [andD]
    · have c' : ¬ (a : Int) + 2 < (row.length : Int) := by omega
      simp [c', c, andD]
  rw [tail]
  by_cases c : 0 < a
  · have im := ixD_getD (row := row) (a := a - 1) (by omega)
    rw [show ((a - 1 : Nat) : Int) = (a : Int) - 1 by omega] at im
    have c' : (0 : Int) < (a : Int) := by omega
    unfold mayX
    simp only [c', decide_true, if_true, im, Rs.bind_nx, ltO_int, ofO_some, c, Bool.true_and, btw]
    clear tail i0 i1 im
    generalize row.getD a 0 = x
    generalize row.getD (a + 1) 0 = y
    generalize row.getD (a - 1) 0 = z
    generalize row.getD (a + 2) 0 = w
    by_cases c1 : lo2 x y < z
    · by_cases c2 : z < hi2 x y
      · simp [c1, c2]
      · simp [c1, c2]
    · simp [c1]
  · have c' : ¬ (0 : Int) < (a : Int) := by omega
    unfold mayX
    simp [c', c]
theorem exch_eq {row : List Int} {a : Nat} (h : a + 1 < row.length) (hl : row.length ≤ 1000) : f_exchanged (iD row) (.int (a : Int)) = .rt (iD (exch row a)) := by
  unfold f_exchanged
  have i0 := ixD_getD (row := row) (a := a) (by omega)
  have i1 := ixD_getD (row := row) (a := a + 1) h
  rw [show ((a + 1 : Nat) : Int) = (a : Int) + 1 by omega] at i1
  have c2 := cut_from row (a + 2)
  rw [show ((a + 2 : Nat) : Int) = (a : Int) + 2 by omega] at c2
  have k1 := catD_iD (a := row.take a) (b := [row.getD (a + 1) 0, row.getD a 0]) (by simp; omega)
  have k2 := catD_iD (a := row.take a ++ [row.getD (a + 1) 0, row.getD a 0]) (b := row.drop (a + 2)) (by simp; omega)
  simp only [Rs.bind_nx, asI_int, cut_to, intD_int, i1, i0, lstD_2, c2]
  rw [show D.lst [D.int (row.getD (a + 1) 0), D.int (row.getD a 0)] = iD [row.getD (a + 1) 0, row.getD a 0] from rfl, k1, Rs.bind_nx, k2]
  rfl
@[simp] theorem rng1_int {j : Int} (h0 : -1000000 ≤ j) (h1 : j < 1000000) : rng1 [.int j] = .nx j.toNat := by
  show (if -(2 ^ 62) ≤ j ∧ j < 2 ^ 62 then Rs.nx j.toNat else .err) = _
  rw [if_pos ⟨by omega, by omega⟩]
theorem next_eq {row : List Int} (hl : row.length ≤ 1000) : f_next_rows (iD row) = .rt (rD (nextX row)) := by
  unfold f_next_rows
  simp only [Rs.bind_nx, lenD_lst, List.length_map, intD_int, rng1_int (j := (row.length : Int) - 1) (by omega) (by omega)]
  rw [show ((row.length : Int) - 1).toNat = row.length - 1 by omega]
  unfold compRg upto
  rw [compD_map (fun (i : Nat) => D.int i) (mayX row) (fun a => iD (exch row a)) (List.range (row.length - 1)) (by simp; omega)
    (fun a ha => by
      have : a + 1 < row.length := by have := List.mem_range.mp ha; omega
      rw [may_eq this]
      rfl)
    (fun a ha _ => by
      have : a + 1 < row.length := by have := List.mem_range.mp ha; omega
      rw [exch_eq this hl]
      rfl)]
  simp [nextX, Function.comp_def]
theorem nextX_len {row q : List Int} (h : q ∈ nextX row) : q.length = row.length := by
  unfold nextX at h
  obtain ⟨a, ha, rfl⟩ := List.mem_map.mp h
  have := List.mem_range.mp (List.mem_filter.mp ha).1
  exact exch_len (by omega)
theorem nextX_many (row : List Int) : (nextX row).length ≤ row.length := by
  unfold nextX
  rw [List.length_map]
  refine Nat.le_trans (List.length_filter_le _ _) ?_
  simp
end Sw

/- part SwM8 -/
namespace Sw
open PySem L2
/-! ### lists against lists -/
theorem toP_iD (ns : List Int) : toP (iD ns) = .list (ns.map PyData.int) := by
  unfold iD toP
  rw [toPs_map, List.map_map]
  congr 1
theorem can_ints : ∀ ns : List Int, PyData.canLayAll0 (ns.map PyData.int) = true
  | [] => by simp [PyData.canLayAll0]
  | n :: ns => by simp [PyData.canLayAll0, PyData.canLay0, can_ints ns]
theorem depth_ints : ∀ ns : List Int, PyData.depthAll (ns.map PyData.int) = 0
  | [] => by simp [PyData.depthAll]
  | n :: ns => by simp [PyData.depthAll, PyData.depth, depth_ints ns]
theorem sh_iD (ns : List Int) : SeqAt.shaped (toP (iD ns)) = true := by
  rw [toP_iD]
  simp [SeqAt.shaped, PyData.canLay0, PyData.depth, can_ints, depth_ints]
theorem eqv_ints : ∀ a b : List Int, PyData.eqvAll (a.map PyData.int) (b.map PyData.int) = decide (a = b)
  | [], [] => by simp [PyData.eqvAll]
  | [], y :: b => by simp [PyData.eqvAll]
  | x :: a, [] => by simp [PyData.eqvAll]
  | x :: a, y :: b => by
    simp only [List.map_cons, PyData.eqvAll, PyData.eqv, eqv_ints a b]
    by_cases h : x = y <;> by_cases h2 : a = b <;> simp [h, h2]
theorem eqO_iD (a b : List Int) : eqO (iD a) (iD b) = some (decide (a = b)) := by
  unfold eqO
  rw [if_pos ⟨sh_iD a, sh_iD b⟩, toP_iD, toP_iD]
  simp [PyData.eqv, eqv_ints]
theorem neO_iD (a b : List Int) : neO (iD a) (iD b) = some (!decide (a = b)) := by
  unfold neO
  rw [eqO_iD]
  rfl
theorem sortedD_iD {ns : List Int} (h : ns.length < 64) : sortedD [iD ns] = .nx (iD (sortI ns)) := by
  show (match getInts (ns.map D.int) with | some ns => (if decide (ns.length < 64) = true then Rs.nx (D.lst ((sortI ns).map D.int)) else .err) | none => .err) = _
  rw [getInts_map]
  simp [h]
theorem sortI_eq {a b : List Int} (h : a.Perm b) : sortI a = sortI b :=
  sorted_unique ((sortI_perm a).trans (h.trans (sortI_perm b).symm)) (sortI_sorted a) (sortI_sorted b)
/-! ### an exchange that may be -/
theorem row_split {row : List Int} {a : Nat} (h : a + 1 < row.length) : row = row.take a ++ ([row.getD a 0, row.getD (a + 1) 0] ++ row.drop (a + 2)) := by
  rw [getD_at (by omega), getD_at h]
  have h1 := List.drop_eq_getElem_cons (l := row) (i := a) (by omega)
  have h2 := List.drop_eq_getElem_cons (l := row) (i := a + 1) h
  rw [h2] at h1
  show row = row.take a ++ (row[a] :: row[a + 1] :: row.drop (a + 2))
  rw [← h1, List.take_append_drop]
theorem exch_perm {row : List Int} {a : Nat} (h : a + 1 < row.length) : (exch row a).Perm row := by
  have e := row_split h
  refine List.Perm.trans ?_ (List.Perm.of_eq e.symm)
  unfold exch
  rw [List.append_assoc]
  exact List.Perm.append_left _ (List.Perm.append_right _ (List.Perm.swap _ _ _))
theorem btw_cases {x y z : Int} (h : btw x y z = true) : (x < z ∧ z < y) ∨ (y < z ∧ z < x) := by
  unfold btw lo2 hi2 at h
  simp only [Bool.and_eq_true, decide_eq_true_eq] at h
  split at h <;> split at h <;> omega
theorem exch_Kn {row : List Int} {a : Nat} (h : a + 1 < row.length) (hm : mayX row a = true) : Kn row (exch row a) := by
  unfold mayX at hm
  rcases Bool.or_eq_true _ _ ▸ hm with hm | hm
  · rw [Bool.and_eq_true, decide_eq_true_eq] at hm
    obtain ⟨h0, hb⟩ := hm
    have e1 : row.take a = row.take (a - 1) ++ [row.getD (a - 1) 0] := by
      rw [getD_at (show a - 1 < row.length by omega), ← take_snoc (show a - 1 < row.length by omega), show a - 1 + 1 = a by omega]
    have e := row_split h
    unfold exch
    rw [e1] at e ⊢
    generalize row.getD a 0 = x at *
    generalize row.getD (a + 1) 0 = y at *
    generalize row.getD (a - 1) 0 = z at *
    refine .step (row.take (a - 1)) (row.drop (a + 2)) (a := [z, x, y]) (b := [z, y, x]) ?_ (e.trans (by simp)) (by simpa using Kn.refl _)
    rcases btw_cases hb with ⟨h1, h2⟩ | ⟨h1, h2⟩
    · exact .inl ⟨x, z, y, .inl ⟨h1, by omega, rfl, rfl⟩⟩
    · exact .inr ⟨y, z, x, .inl ⟨h1, by omega, rfl, rfl⟩⟩
  · rw [Bool.and_eq_true, decide_eq_true_eq] at hm
    obtain ⟨h0, hb⟩ := hm
    have e1 : row.drop (a + 2) = row.getD (a + 2) 0 :: row.drop (a + 3) := by
      rw [getD_at h0]
      exact List.drop_eq_getElem_cons h0
    have e := row_split h
    unfold exch
    rw [e1] at e ⊢
    generalize row.getD a 0 = x at *
    generalize row.getD (a + 1) 0 = y at *
    generalize row.getD (a + 2) 0 = z at *
    refine .step (row.take a) (row.drop (a + 3)) (a := [x, y, z]) (b := [y, x, z]) ?_ (e.trans (by simp)) (by simpa using Kn.refl _)
    rcases btw_cases hb with ⟨h1, h2⟩ | ⟨h1, h2⟩
    · exact .inl ⟨x, z, y, .inr ⟨by omega, h2, rfl, rfl⟩⟩
    · exact .inr ⟨y, z, x, .inr ⟨by omega, h2, rfl, rfl⟩⟩
theorem exch_ne {row : List Int} {a : Nat} (h : a + 1 < row.length) (hm : mayX row a = true) : exch row a ≠ row := by
  have hne : row.getD a 0 ≠ row.getD (a + 1) 0 := by
    intro e
    unfold mayX at hm
    rw [e] at hm
    rcases Bool.or_eq_true _ _ ▸ hm with hm | hm <;>
    · rw [Bool.and_eq_true] at hm
      rcases btw_cases hm.2 with h | h <;> omega
  intro e
  have e2 := e.trans (row_split h)
  unfold exch at e2
  rw [List.append_assoc] at e2
  have := List.append_cancel_left e2
  simp only [List.cons_append, List.cons.injEq] at this
  exact hne this.1.symm
theorem nextX_mem {row q : List Int} (h : q ∈ nextX row) : ∃ a, a + 1 < row.length ∧ mayX row a = true ∧ q = exch row a := by
  unfold nextX at h
  obtain ⟨a, ha, rfl⟩ := List.mem_map.mp h
  have := List.mem_filter.mp ha
  have h2 := List.mem_range.mp this.1
  exact ⟨a, by omega, this.2, rfl⟩
theorem forL_unit {β ι : Type} {b : ι → Unit → Out Unit Unit} : ∀ {ds : List ι}, (∀ d ∈ ds, b d () = .nx ()) → (forL b ds () : Out β Unit) = .nx ()
  | [], _ => rfl
  | d :: r, h => by
    rw [forL_cons, h d (.head _)]
    exact forL_unit fun x hx => h x (.tail _ hx)
end Sw

/- part PlC -/
/-! Words turned about; columns. -/
namespace Sw
open PySem L2
theorem KR.rev {a b : List Int} (h : KR a b) (hn : a.Nodup) : KS a.reverse b.reverse := by
  obtain ⟨x, y, z, ⟨h1, h2, rfl, rfl⟩ | ⟨h1, h2, rfl, rfl⟩⟩ := h
  · have : y ≠ z := by
      intro e
      simp [e] at hn
    exact .inr ⟨x, y, z, .inr ⟨by omega, by omega, rfl, rfl⟩⟩
  · have : x ≠ y := by
      intro e
      simp [e] at hn
    exact .inr ⟨x, y, z, .inl ⟨by omega, by omega, rfl, rfl⟩⟩
theorem KS.rev {a b : List Int} (h : KS a b) (hn : a.Nodup) : KS a.reverse b.reverse := by
  rcases h with h | h
  · exact h.rev hn
  · exact (h.rev (h.perm.nodup_iff.mpr hn)).symm
theorem Kn.rev {a b : List Int} (h : Kn a b) (hn : a.Nodup) : Kn a.reverse b.reverse := by
  induction h with
  | refl => exact .refl _
  | @step w w' u v p q hk e _ ih =>
    have hp : (u ++ (q ++ v)).Nodup := by
      rw [e] at hn
      exact (List.Perm.append_left u (List.Perm.append_right v hk.perm)).nodup_iff.mp hn
    refine .step v.reverse u.reverse (hk.rev ?_) (by rw [e]; simp) (by simpa using ih hp)
    rw [e] at hn
    exact (List.nodup_append.mp (List.nodup_append.mp hn).2.1).1
/-! ### columns -/
def addC : List (List Int) → List Int → List (List Int)
  | C, [] => C
  | [], x :: p => [x] :: addC [] p
  | c :: C, x :: p => (c ++ [x]) :: addC C p
@[simp] theorem addC_nil (C : List (List Int)) : addC C [] = C := by cases C <;> rfl
def colsF : List (List Int) → List (List Int) → List (List Int)
  | C, [] => C
  | C, r :: T => colsF (addC C r) T
def cols (T : List (List Int)) : List (List Int) := colsF [] T
theorem colsF_snoc : ∀ (T C : List (List Int)) (r : List Int), colsF C (T ++ [r]) = addC (colsF C T) r
  | [], C, r => rfl
  | t :: T, C, r => colsF_snoc T _ r
theorem addC_len : ∀ (C : List (List Int)) (p : List Int), (addC C p).length = max C.length p.length
  | C, [] => by simp
  | [], x :: p => by
    simp only [addC, List.length_cons, addC_len [] p, List.length_nil]
    omega
  | c :: C, x :: p => by
    simp only [addC, List.length_cons, addC_len C p]
    omega
theorem addC_snoc : ∀ (C : List (List Int)) (p : List Int) (x : Int), addC C (p ++ [x]) = if C.length ≤ p.length then addC C p ++ [[x]] else (addC C p).set p.length ((addC C p).getD p.length [] ++ [x])
  | [], [], x => rfl
  | c :: C, [], x => by simp [addC]
  | [], y :: p, x => by
    have := addC_snoc [] p x
    simp only [List.length_nil, Nat.zero_le, if_true] at this ⊢
    simp [addC, this]
  | c :: C, y :: p, x => by
    have := addC_snoc C p x
    simp only [List.cons_append, addC, this, List.length_cons]
    by_cases h : C.length ≤ p.length
    · rw [if_pos h, if_pos (by omega)]
    · rw [if_neg h, if_neg (by omega)]
      simp
theorem addC_rows : ∀ (C : List (List Int)) (p : List Int) (m : Nat), (∀ c ∈ C, c.length ≤ m) → ∀ c ∈ addC C p, c.length ≤ m + 1
  | C, [], m, h => fun c hc => by
    rw [addC_nil] at hc
    have := h c hc
    omega
  | [], x :: p, m, h => fun c hc => by
    rcases List.mem_cons.mp hc with e | e
    · rw [e]; simp
    · exact addC_rows [] p m (by simp) c e
  | d :: C, x :: p, m, h => fun c hc => by
    rcases List.mem_cons.mp hc with e | e
    · rw [e]
      have := h d (.head _)
      simpa using this
    · exact addC_rows C p m (fun q hq => h q (.tail _ hq)) c e
theorem rowW_append : ∀ (u v r : List Int), rowW r (u ++ v) = ((rowW (rowW r u).1 v).1, (rowW r u).2 ++ (rowW (rowW r u).1 v).2)
  | [], v, r => by simp [rowW]
  | x :: u, v, r => by
    rw [List.cons_append, rowW, rowW, rowW_append u v]
    simp
theorem ins_app : ∀ (c : List Int) (x y : Int), (∀ z ∈ c, z ≤ x) → x < y → ins (c ++ [y]) x = (c ++ [x], some y)
  | [], x, y, _, h => ins_lt h
  | d :: c, x, y, hc, h => by
    rw [List.cons_append, ins_ge (by have := hc d (.head _); omega), ins_app c x y (fun z hz => hc z (.tail _ hz)) h]
    rfl
theorem ins_end : ∀ (c : List Int) (x : Int), (∀ z ∈ c, z ≤ x) → ins c x = (c ++ [x], none)
  | [], x, _ => rfl
  | d :: c, x, hc => by
    rw [ins_ge (by have := hc d (.head _); omega), ins_end c x (fun z hz => hc z (.tail _ hz))]
    rfl
/-- a falling word: the least stays, the others go down -/
theorem rowW_desc : ∀ (p : List Int) (x : Int) (c : List Int), (x :: p).Pairwise (· < ·) → (∀ z ∈ c, z ≤ x) → rowW c (x :: p).reverse = (c ++ [x], p.reverse)
  | [], x, c, _, hc => by
    show rowW c [x] = _
    rw [rowW, ins_end c x hc]
    rfl
  | y :: p, x, c, hp, hc => by
    have h' := List.pairwise_cons.mp hp
    have hxy := h'.1 y (.head _)
    rw [List.reverse_cons, rowW_append, rowW_desc p y c h'.2 (fun z hz => by have := hc z hz; omega)]
    simp only
    rw [rowW, ins_app c x y hc hxy]
    simp [rowW]
/-- each number is greater than what stands in its column -/
def CondC : List (List Int) → List Int → Prop
  | _, [] => True
  | [], _ :: _ => True
  | c :: C, x :: p => (∀ z ∈ c, z < x) ∧ CondC C p
/-- .. not less than, and the columns are as many -/
def CondL : List (List Int) → List Int → Prop
  | _, [] => True
  | [], _ :: _ => False
  | c :: C, x :: p => (∀ z ∈ c, z ≤ x) ∧ CondL C p
theorem layW_desc : ∀ (p : List Int) (C : List (List Int)), p.Pairwise (· < ·) → CondC C p → layW C p.reverse = addC C p
  | [], C, _, _ => by simp [layW]
  | x :: p, [], hp, _ => by
    have h' := List.pairwise_cons.mp hp
    obtain ⟨y, w, e⟩ : ∃ y w, (x :: p).reverse = y :: w := List.exists_cons_of_ne_nil (by simp)
    rw [e, layW_nil, ← e, rowW_desc p x [] hp (by simp)]
    simp only
    rw [layW_desc p [] h'.2 (by cases p <;> exact True.intro)]
    rfl
  | x :: p, c :: C, hp, hc => by
    have h' := List.pairwise_cons.mp hp
    rw [layW_cons, rowW_desc p x c hp (fun z hz => by have := hc.1 z hz; omega)]
    simp only
    rw [layW_desc p C h'.2 hc.2]
    rfl
theorem CondL.next : ∀ {C : List (List Int)} {r s : List Int}, CondL C r → Dom r s → CondC C s
  | C, r, [], _, _ => by cases C <;> exact True.intro
  | [], r, y :: s, _, _ => True.intro
  | c :: C, [], y :: s, _, h => h.elim
  | c :: C, x :: r, y :: s, hc, h => ⟨fun z hz => by have := hc.1 z hz; have := h.1; omega, CondL.next hc.2 h.2⟩
theorem CondC.add : ∀ {C : List (List Int)} {s : List Int}, CondC C s → CondL (addC C s) s
  | C, [], _ => by cases C <;> exact True.intro
  | [], y :: s, _ => ⟨by simp, CondC.add (C := []) (by cases s <;> exact True.intro)⟩
  | c :: C, y :: s, h => ⟨fun z hz => by
      rcases List.mem_append.mp hz with e | e
      · have := h.1 z e; omega
      · simp at e; omega, CondC.add h.2⟩
theorem layW_cols : ∀ (T C : List (List Int)), Tab T → (∀ r ∈ T, r.Pairwise (· < ·)) → (∀ r, T.head? = some r → CondC C r) → layW C (rdg T).reverse = colsF C T
  | [], C, _, _, _ => rfl
  | r :: T, C, ht, hs, hc => by
    rw [rdg, List.reverse_append, layW_append, layW_desc r C (hs r (.head _)) (hc r rfl)]
    rw [layW_cols T (addC C r) ht.tail (fun q hq => hs q (.tail _ hq)) ?_]
    · rfl
    · intro s hs'
      cases T with
      | nil => cases hs'
      | cons t T =>
        cases hs'
        exact (CondC.add (hc r rfl)).next ht.2.2.1
theorem rdg_mem : ∀ {T : List (List Int)} {r : List Int}, r ∈ T → r.Sublist (rdg T)
  | t :: T, r, h => by
    rw [rdg]
    rcases List.mem_cons.mp h with e | e
    · rw [e]
      exact List.sublist_append_right _ _
    · exact (rdg_mem e).trans (List.sublist_append_left _ _)
theorem strict_rows {w : List Int} (hn : w.Nodup) : ∀ r ∈ layW [] w, r.Pairwise (· < ·) := by
  intro r hr
  have h1 := (tab_laid w).ups r hr
  have h2 : r.Nodup := (rdg_mem hr).nodup ((kn_rdg w).perm.nodup_iff.mp hn)
  exact (List.pairwise_and_iff.mpr ⟨h1, h2⟩).imp fun h => by omega
/-- a row turned about has the stairs turned -/
theorem lay_rev {w : List Int} (hn : w.Nodup) : layW [] w.reverse = cols (layW [] w) := by
  have h := ((kn_rdg w).rev hn).lay
  rw [h]
  exact layW_cols _ [] (tab_laid w) (strict_rows hn) (fun r _ => by cases r <;> exact True.intro)
end Sw

/- part SwM9 -/
namespace Sw
open PySem L2
theorem forL_then {α β S ι : Type} {b : ι → S → Out S S} {g : S → Out β α} {ds : List ι} {s : S} {P : Out β α → Prop} (I : Nat → S → Prop) (h0 : I 0 s) (hb : ∀ (j : Nat) (d : ι) (s : S), ds[j]? = some d → I j s → ∃ s', b d s = .nx s' ∧ I (j + 1) s')
    (hg : ∀ s', I ds.length s' → P (g s')) : P ((forL b ds s).bind g) := by
  obtain ⟨s', e, h⟩ := forL_inv (β := β) (b := b) I ds s 0 h0 fun j d s hd hi => by
    rw [Nat.zero_add] at hi ⊢
    exact hb j d s hd hi
  rw [e]
  rw [Nat.zero_add] at h
  exact hg s' h
theorem map_get {α β : Type} {f : α → β} {l : List α} {j : Nat} {d : β} (h : (l.map f)[j]? = some d) : ∃ h : j < l.length, d = f l[j] := by
  rw [List.getElem?_map] at h
  cases e : l[j]? with
  | none => rw [e] at h; cases h
  | some x =>
    rw [e] at h
    cases h
    obtain ⟨hl, rfl⟩ := List.getElem?_eq_some_iff.mp e
    exact ⟨hl, rfl⟩
theorem sh_non : SeqAt.shaped (toP .non) = true := by
  simp [toP, SeqAt.shaped, PyData.canLay0, PyData.depth]
theorem in_non (ns : List Int) : inO .non (iD ns) = some false := by
  show (if SeqAt.shaped (toP .non) = true ∧ SeqAt.shaped (toP (.lst (ns.map D.int))) = true then some ((toPs (ns.map D.int)).any fun z => PyData.eqv z (toP .non)) else none) = _
  rw [if_pos ⟨sh_non, sh_iD ns⟩, toPs_map]
  congr 1
  rw [List.any_eq_false]
  intro x hx
  simp only [List.map_map, List.mem_map, Function.comp_def] at hx
  obtain ⟨i, _, rfl⟩ := hx
  simp [toP, PyData.eqv]
/-- one number to its column, as the laws put it -/
theorem col_new {B : List (List Int)} (x : Int) (hB : B.length ≤ 1000) : opD none appL (rD B) (.nx (.lst [])) = .nx (rD (B ++ [[]])) ∧ idxD (rD (B ++ [[]])) (.int (B.length : Int)) = .nx B.length ∧ opD (some B.length) appL (rD (B ++ [[]])) (.nx (.int x)) = .nx (rD (B ++ [[x]])) := by
  refine ⟨opD_app_nil (by omega), idxD_rD (by simp), ?_⟩
  have e2 := opD_app_at (rows := B ++ [[]]) (x := x) (j := B.length) (by simp) (by simp)
  rw [show (B ++ [[]])[B.length]'(by simp) = [] by simp, set_append_last] at e2
  exact e2
theorem col_old {B : List (List Int)} {j : Nat} (x : Int) (hj : j < B.length) (hr : ∀ c ∈ B, c.length ≤ 1000) : idxD (rD B) (.int (j : Int)) = .nx j ∧ opD (some j) appL (rD B) (.nx (.int x)) = .nx (rD (B.set j (B.getD j [] ++ [x]))) := by
  refine ⟨idxD_rD hj, ?_⟩
  rw [opD_app_at hj (by have := hr _ (List.getElem_mem hj); omega)]
  simp [List.getD, List.getElem?_eq_getElem hj]
theorem colsF_ok : ∀ (T C : List (List Int)) (m : Nat), (∀ c ∈ C, c.length ≤ m) → C.length ≤ 100 → (∀ r ∈ T, r.length ≤ 100) → (colsF C T).length ≤ 100 ∧ ∀ c ∈ colsF C T, c.length ≤ m + T.length
  | [], C, m, h, hl, _ => ⟨hl, fun c hc => h c hc⟩
  | r :: T, C, m, h, hl, hr => by
    have := colsF_ok T (addC C r) (m + 1) (addC_rows C r m h) (by rw [addC_len]; have := hr r (.head _); omega) (fun q hq => hr q (.tail _ hq))
    refine ⟨this.1, fun c hc => ?_⟩
    have := this.2 c hc
    simp
    omega
end Sw

/- part SwM10 -/
namespace Sw
open PySem L2
theorem rdg_snoc : ∀ (T : List (List Int)) (r : List Int), rdg (T ++ [r]) = r ++ rdg T
  | [], r => by simp [rdg]
  | t :: T, r => by simp [rdg, rdg_snoc T r]
theorem rdg_rev : ∀ T : List (List Int), rdg T = T.reverse.flatten
  | [] => rfl
  | t :: T => by simp [rdg, rdg_rev T]
theorem rdg_len {T : List (List Int)} {r : List Int} (h : r ∈ T) : r.length ≤ (rdg T).length := (rdg_mem h).length_le
theorem extD_iD {a b : List Int} (h : a.length + b.length ≤ 16777216) : extD none (iD a) (.nx (iD b)) = .nx (iD (a ++ b)) := by
  unfold extD
  simp only [plGet_none, Rs.bind_nx]
  rw [if_pos ⟨by rw [szl]; simpa using h, ints_all b⟩]
  simp
theorem isnt_non (i : Int) : isntO (.int i) .non = some true := rfl
theorem full1_q (ns : List Int) : full? 1 (iD ns) = .nx (iD ns) := by
  unfold full?
  rw [if_pos (full1_iD ns)]
theorem full2_q (T : List (List Int)) : full? 2 (rD T) = .nx (rD T) := by
  unfold full?
  rw [if_pos (full2_rD T)]
theorem reading_eq {T : List (List Int)} (hl : (rdg T).length ≤ 1000) : f_reading (rD T) = .rt (iD (rdg T)) := by
  unfold f_reading
  have hc : ∀ r : List Int, r.length ≤ 1000 → compS (fun x => ofO (isntO x .non)) (fun x => at? x) (iD r) = .nx (iD r) := fun r hr => by
    rw [compS_map (f := fun x => at? x) (cc := fun x => ofO (isntO x .non)) D.int (fun _ => true) D.int r (by omega) (fun x _ => by rw [isnt_non]; rfl) (fun x _ _ => rfl)]
    rw [List.filter_eq_self.mpr (by simp)]
  simp only [lstD_nil, Rs.to_nx, Rs.bind_nx, revSeqD_lst, ← List.map_reverse]
  refine forL_then (P := fun o => o = .rt (iD (rdg T))) (fun k s => s = iD ((T.reverse.take k).flatten)) rfl ?_ ?_
  · rintro k d s hd rfl
    obtain ⟨hk, rfl⟩ := map_get hd
    have hr : (T.reverse[k]).length ≤ 1000 := by
      have := rdg_len (T := T) (r := T.reverse[k]) (List.mem_reverse.mp (List.getElem_mem hk))
      omega
    have e : T.reverse.take (k + 1) = T.reverse.take k ++ [T.reverse[k]] := by
      rw [List.take_add_one, List.getElem?_eq_getElem hk]
      rfl
    have hs : ((T.reverse.take k).flatten).length ≤ 1000 := by
      have h2 := congrArg List.length (congrArg List.flatten (List.take_append_drop k T.reverse))
      rw [List.flatten_append, List.length_append, ← rdg_rev] at h2
      omega
    refine ⟨_, ?_, rfl⟩
    rw [hc _ hr, extD_iD (by omega), e]
    simp
  · rintro s rfl
    rw [List.length_map, List.take_length, ← rdg_rev]
    simp only [full1_q, Rs.to_nx]
/-! ### columns -/
theorem addC_get : ∀ (C : List (List Int)) (r : List Int) (j : Nat), r.length ≤ C.length → (addC C r)[j]? = (C[j]?).map fun c => c ++ (r[j]?).toList
  | C, [], j, _ => by cases h : C[j]? <;> simp [h]
  | [], x :: r, j, h => by simp at h
  | c :: C, x :: r, 0, _ => rfl
  | c :: C, x :: r, j + 1, h => by
    simp only [addC, List.getElem?_cons_succ]
    exact addC_get C r j (by simpa using h)
theorem colsF_get : ∀ (T C : List (List Int)) (j : Nat), (∀ r ∈ T, r.length ≤ C.length) → (colsF C T)[j]? = (C[j]?).map fun c => c ++ T.filterMap (fun r => r[j]?)
  | [], C, j, _ => by cases h : C[j]? <;> simp [h, colsF]
  | r :: T, C, j, h => by
    have h1 := h r (.head _)
    rw [colsF, colsF_get T (addC C r) j (fun q hq => by rw [addC_len]; have := h q (.tail _ hq); omega), addC_get C r j h1]
    cases C[j]? with
    | none => rfl
    | some c =>
      simp only [Option.map_some, List.filterMap_cons]
      cases r[j]? with
      | none => simp
      | some x => simp
theorem addC_nil_get : ∀ (r : List Int) (j : Nat), (addC [] r)[j]? = (r[j]?).map fun x => [x]
  | [], j => by simp
  | x :: r, 0 => rfl
  | x :: r, j + 1 => by
    simp only [addC, List.getElem?_cons_succ]
    exact addC_nil_get r j
theorem tab_lens : ∀ {T : List (List Int)} {r : List Int}, Tab (r :: T) → ∀ q ∈ T, q.length ≤ r.length
  | [], r, _, q, h => by cases h
  | s :: T, r, ht, q, h => by
    have h1 := ht.2.2.1.len
    rcases List.mem_cons.mp h with e | e
    · rw [e]; exact h1
    · have := tab_lens ht.2.2.2 q e
      omega
def trn : List (List Int) → List (List Int)
  | [] => []
  | r :: T => (List.range r.length).map fun j => ((r :: T).filter fun q => decide (j < q.length)).map fun q => q.getD j 0
theorem filter_getD (j : Nat) : ∀ T : List (List Int), (T.filter fun q => decide (j < q.length)).map (fun q => q.getD j 0) = T.filterMap fun r => r[j]?
  | [] => rfl
  | r :: T => by
    rw [List.filter_cons, List.filterMap_cons]
    by_cases c : j < r.length
    · rw [if_pos (by simpa using c), List.map_cons, filter_getD j T, List.getElem?_eq_getElem c]
      simp [List.getD, List.getElem?_eq_getElem c]
    · rw [if_neg (by simpa using c), filter_getD j T, List.getElem?_eq_none (by omega)]
theorem trn_cols {T : List (List Int)} (ht : Tab T) : trn T = cols T := by
  cases T with
  | nil => rfl
  | cons r T =>
    apply List.ext_getElem?
    intro j
    have e : cols (r :: T) = colsF (addC [] r) T := rfl
    rw [e, colsF_get T (addC [] r) j (fun q hq => by rw [addC_len]; have := tab_lens ht q hq; simp; omega), addC_nil_get]
    unfold trn
    rw [List.getElem?_map]
    by_cases c : j < r.length
    · rw [List.getElem?_range c, List.getElem?_eq_getElem c]
      simp only [Option.map_some]
      rw [filter_getD, List.filterMap_cons, List.getElem?_eq_getElem c]
      rfl
    · rw [List.getElem?_eq_none (by simp; omega), List.getElem?_eq_none (l := r) (by omega)]
      rfl
theorem turned_eq {T : List (List Int)} (hl : T.length ≤ 1000) (hr : ∀ r ∈ T, r.length ≤ 1000) : f_turned (rD T) = .rt (rD (trn T)) := by
  unfold f_turned
  cases T with
  | nil => simp [trn]
  | cons r T =>
    have hne : ¬ (((r :: T).length : Int) = 0) := by simp; omega
    have h0 : ixD (rD (r :: T)) (.int 0) = .nx (iD r) := ixD_lst0 _ _
    have hrl := hr r (.head _)
    simp only [Rs.bind_nx, lenD_lst, List.length_map, eqO_int, ofO_some, hne, decide_false, Bool.false_eq_true, if_false, Rs.to_nx, Out.bind_nx, h0, rng1_int (j := (r.length : Int)) (by omega) (by omega), Int.toNat_natCast]
    unfold compRg upto
    rw [compD_map (fun (i : Nat) => D.int i) (fun _ => true) (fun j => iD (((r :: T).filter fun q => decide (j < q.length)).map fun q => q.getD j 0)) (List.range r.length) (by simp; omega) (fun _ _ => rfl) (fun j hj _ => ?_)]
    · rw [List.filter_eq_self.mpr (by simp)]
      simp [trn, Function.comp_def]
    · rw [compS_map (cc := fun x => (lenD [x]).bind fun x14 => ofO (gtO x14 (.int (j : Int)))) (f := fun x => (ixD x (.int (j : Int))).bind at?) iD (fun q => decide (j < q.length)) (fun q => D.int (q.getD j 0)) (r :: T) (by omega) (fun q _ => by simp) (fun q hq hp => by
        have : j < q.length := by simpa using hp
        rw [ixD_getD this]
        rfl)]
      simp [Function.comp_def]
theorem law_columns_eq {T : List (List Int)} (hl : T.length ≤ 100) (hr : ∀ r ∈ T, r.length ≤ 100) : f_law_columns (rD T) = .rt (rD (cols T)) := by
  unfold f_law_columns
  simp only [lstD_nil, Rs.to_nx, Rs.bind_nx, seqD_lst]
  refine forL_then (P := fun o => o = .rt (rD (cols T))) (fun k s => s = rD (cols (T.take k))) rfl ?_ ?_
  · rintro k d s hd rfl
    obtain ⟨hk, rfl⟩ := map_get hd
    have hrk := hr _ (List.getElem_mem hk)
    have hC := colsF_ok (T.take k) [] 0 (by simp) (by simp) (fun r h => by have := hr r (List.mem_of_mem_take h); omega)
    have htk : (T.take k).length ≤ 100 := by simp; omega
    simp only [Rs.bind_nx, Rs.to_nx, lenD_lst, List.length_map, rngD1_len (show T[k].length ≤ 16777216 by omega)]
    refine ⟨rD (cols (T.take (k + 1))), ?_, rfl⟩
    have e : T.take (k + 1) = T.take k ++ [T[k]] := by
      rw [List.take_add_one, List.getElem?_eq_getElem hk]
      rfl
    rw [e]
    unfold cols at hC ⊢
    rw [colsF_snoc]
    generalize T[k] = r at *
    generalize colsF [] (T.take k) = C at *
    refine forU_then (P := fun o => o = .nx (rD (addC C r))) (fun j s => s = rD (addC C (r.take j))) (by simp) ?_ ?_
    · rintro j s hj rfl
      refine ⟨rD (addC C (r.take (j + 1))), ?_, rfl⟩
      have htl : (r.take j).length = j := by simp; omega
      have hBl := addC_len C (r.take j)
      have hBr := addC_rows C (r.take j) (0 + (T.take k).length) hC.2
      have hsn := addC_snoc C (r.take j) r[j]
      rw [← take_snoc hj] at hsn
      rw [hsn]
      rw [htl] at hBl ⊢
      generalize addC C (r.take j) = B at *
      by_cases c : C.length ≤ j
      · have hBj : B.length = j := by omega
        subst hBj
        obtain ⟨c1, c2, c3⟩ := col_new (B := B) r[B.length] (by omega)
        rw [if_pos c]
        simp only [lenD_lst, List.length_map, eqO_int, ofO_some, decide_true, if_true, Rs.to_nx, Rs.bind_nx, c1, Out.bind_nx, c2, ixD_iD hj, at_int, c3]
      · have hBj : j < B.length := by omega
        have hne : ¬ ((j : Int) = (B.length : Int)) := by omega
        obtain ⟨c2, c3⟩ := col_old (B := B) r[j] hBj (fun q hq => by have := hBr q hq; omega)
        rw [if_neg c]
        simp only [lenD_lst, List.length_map, eqO_int, ofO_some, hne, decide_false, Bool.false_eq_true, if_false, Rs.to_nx, Rs.bind_nx, Out.bind_nx, c2, ixD_iD hj, at_int, c3]
    · rintro s rfl
      rw [List.take_length]
  · rintro s rfl
    rw [List.length_map, List.take_length]
    simp only [full2_q, Rs.to_nx]
end Sw

/- part PlH -/
/-! Taking out: the inverse of laying in. -/
namespace Sw
open PySem L2
abbrev Ris (r : List Int) : Prop := r.Pairwise (· < ·)
theorem Ris.get {r : List Int} (h : Ris r) {i j : Nat} (hj : j < r.length) (hij : i < j) : r[i]'(by omega) < r[j] := List.pairwise_iff_getElem.mp h i j (by omega) hj hij
theorem Ris.up {r : List Int} (h : Ris r) : Up r := h.imp fun h => by omega
theorem pl_lo {x : Int} {r : List Int} {i : Nat} (h : i < pl x r) (hi : i < r.length) : r[i] ≤ x := by
  have := List.not_of_lt_findIdx (xs := r) (p := fun y => decide (x < y)) (i := i) h
  simpa using this
theorem pl_hi {x : Int} {r : List Int} (h : pl x r < r.length) : x < r[pl x r] := of_decide_eq_true (List.findIdx_getElem (xs := r) (p := fun y => decide (x < y)) (w := h))
theorem pl_eq {r : List Int} {x : Int} {j : Nat} (hj : j ≤ r.length) (h1 : ∀ i (h : i < r.length), i < j → r[i] ≤ x) (h2 : ∀ h : j < r.length, x < r[j]) : pl x r = j := by
  by_cases c : j < r.length
  · refine (List.findIdx_eq c).mpr ⟨by simpa using h2 c, fun i hi => ?_⟩
    have := h1 i (by omega) hi
    simp
    omega
  · have e : j = r.length := by omega
    subst e
    refine List.findIdx_eq_length.mpr fun y hy => ?_
    obtain ⟨i, hi, rfl⟩ := List.getElem_of_mem hy
    have := h1 i hi hi
    simp
    omega
theorem len_pos {α : Type} {r : List α} (h : r ≠ []) : 0 < r.length := List.length_pos_iff.mpr h
theorem dom_iff : ∀ {u l : List Int}, Dom u l ↔ l.length ≤ u.length ∧ ∀ j (h1 : j < l.length) (h2 : j < u.length), u[j] < l[j]
  | u, [] => by simp
  | [], b :: l => by simp [Dom]
  | a :: u, b :: l => by
    show (a < b ∧ Dom u l) ↔ _
    rw [dom_iff (u := u) (l := l)]
    constructor
    · rintro ⟨h1, h2, h3⟩
      refine ⟨by simp; omega, fun j g1 g2 => ?_⟩
      cases j with
      | zero => exact h1
      | succ j => exact h3 j (by simpa using g1) (by simpa using g2)
    · rintro ⟨h2, h3⟩
      exact ⟨h3 0 (by simp) (by simp), by simpa using h2, fun j g1 g2 => h3 (j + 1) (by simpa using g1) (by simpa using g2)⟩
def hd1 : List (List Int) → List Int
  | [] => []
  | r :: _ => r
@[simp] theorem hd1_nil : hd1 [] = [] := rfl
@[simp] theorem hd1_cons (r : List Int) (T : List (List Int)) : hd1 (r :: T) = r := rfl
def STab : List (List Int) → Prop
  | [] => True
  | r :: T => r ≠ [] ∧ Ris r ∧ Dom r (hd1 T) ∧ STab T
theorem STab.tab : ∀ {T : List (List Int)}, STab T → Tab T
  | [], _ => True.intro
  | [r], h => ⟨h.1, h.2.1.up⟩
  | r :: s :: T, h => ⟨h.1, h.2.1.up, h.2.2.1, STab.tab h.2.2.2⟩
theorem stab_of : ∀ {T : List (List Int)}, Tab T → (∀ r ∈ T, Ris r) → STab T
  | [], _, _ => True.intro
  | [r], h, hs => ⟨h.1, hs r (.head _), by simp, True.intro⟩
  | r :: s :: T, h, hs => ⟨h.1, hs r (.head _), h.2.2.1, stab_of h.2.2.2 fun q hq => hs q (.tail _ hq)⟩
theorem STab.str : ∀ {T : List (List Int)}, STab T → ∀ r ∈ T, Ris r
  | r :: T, h, q, hq => by
    rcases List.mem_cons.mp hq with e | e
    · rw [e]; exact h.2.1
    · exact STab.str h.2.2.2 q e
theorem STab.ne : ∀ {T : List (List Int)}, STab T → ∀ r ∈ T, r ≠ []
  | r :: T, h, q, hq => by
    rcases List.mem_cons.mp hq with e | e
    · rw [e]; exact h.1
    · exact STab.ne h.2.2.2 q e
theorem rdg_cons (r : List Int) (T : List (List Int)) : rdg (r :: T) = rdg T ++ r := rfl
theorem stab_laid {w : List Int} (hn : w.Nodup) : STab (layW [] w) := stab_of (tab_laid w) (strict_rows hn)
abbrev rowL (T : List (List Int)) (k : Nat) : Nat := (T.getD k []).length
/-- nothing stands below the row's end -/
def Corner (T : List (List Int)) (i : Nat) : Prop := rowL T (i + 1) < rowL T i
theorem STab.le : ∀ {T : List (List Int)} (k : Nat), STab T → rowL T (k + 1) ≤ rowL T k
  | [], k, _ => by simp [rowL]
  | r :: T, 0, h => by
    have := (dom_iff.mp h.2.2.1).1
    cases T with
    | nil => simp [rowL]
    | cons s T => simpa [rowL, hd1] using this
  | r :: T, k + 1, h => by
    have := STab.le k h.2.2.2
    simpa [rowL] using this
def takeO : List (List Int) → Nat → List (List Int) × Int
  | [], _ => ([], 0)
  | r :: T, 0 => (if r.length ≤ 1 then T else r.dropLast :: T, r.getD (r.length - 1) 0)
  | r :: T, i + 1 => (r.set (pl (takeO T i).2 r - 1) (takeO T i).2 :: (takeO T i).1, r.getD (pl (takeO T i).2 r - 1) 0)
/-- what has become of the first row -/
def HeadK (s s' : List Int) (n : Int) : Prop := ∃ j, ∃ hj : j < s.length, s[j] = n ∧ s'.length ≤ s.length ∧ ∀ k (h : k < s'.length) (h2 : k < s.length), (k ≠ j → s'[k] = s[k]) ∧ (k = j → n < s'[k])
structure Tk (T : List (List Int)) (i : Nat) (T' : List (List Int)) (n : Int) : Prop where
  lay : layIn T' n = (T, i)
  tab : STab T'
  perm : (rdg T).Perm (n :: rdg T')
  len : ∀ k, rowL T' k = rowL T k - if k = i then 1 else 0
  head : HeadK (hd1 T) (hd1 T') n
theorem set_perm {r : List Int} {j : Nat} (n : Int) (hj : j < r.length) : (n :: r).Perm (r[j] :: r.set j n) := by
  have e1 := List.take_append_drop j r
  have e2 := List.drop_eq_getElem_cons hj
  have e3 : r.set j n = r.take j ++ n :: r.drop (j + 1) := by rw [List.set_eq_take_append_cons_drop, if_pos hj]
  rw [e3]
  have e4 : r = r.take j ++ r[j] :: r.drop (j + 1) := by rw [← e2, e1]
  have p1 : (n :: r).Perm (n :: (r.take j ++ r[j] :: r.drop (j + 1))) := by rw [← e4]
  refine p1.trans ?_
  refine (List.Perm.cons n List.perm_middle).trans ?_
  refine (List.Perm.swap _ _ _).trans ?_
  exact List.Perm.cons _ List.perm_middle.symm
theorem set_str {r : List Int} {j : Nat} {n : Int} (h : Ris r) (hj : j < r.length) (h1 : r[j] < n) (h2 : ∀ h : j + 1 < r.length, n < r[j + 1]) : Ris (r.set j n) := by
  refine List.pairwise_iff_getElem.mpr fun a b ha hb hab => ?_
  rw [List.length_set] at ha hb
  rw [List.getElem_set, List.getElem_set]
  by_cases c1 : j = a
  · subst c1
    rw [if_pos rfl, if_neg (by omega)]
    have := h2 (by omega)
    by_cases c2 : b = j + 1
    · subst c2; exact this
    · have := h.get hb (i := j + 1) (by omega)
      omega
  · rw [if_neg c1]
    by_cases c2 : j = b
    · subst c2
      rw [if_pos rfl]
      have := h.get hj hab
      omega
    · rw [if_neg c2]
      exact h.get hb hab
theorem takeO_ok : ∀ {T : List (List Int)} {i : Nat}, STab T → (rdg T).Nodup → Corner T i → Tk T i (takeO T i).1 (takeO T i).2
  | [], i, _, _, hc => by simp [Corner, rowL] at hc
  | r :: T, 0, h, hn, hc => by
    have hr0 : 0 < r.length := len_pos h.1
    have hc : rowL T 0 < r.length := by simpa [Corner, rowL] using hc
    have el : r.getD (r.length - 1) 0 = r[r.length - 1] := getD_at (by omega)
    have ed : r = r.dropLast ++ [r[r.length - 1]] := by
      rw [← List.getLast_eq_getElem h.1]
      exact (List.dropLast_concat_getLast h.1).symm
    have hp : (rdg (r :: T)).Perm (r[r.length - 1] :: (rdg T ++ r.dropLast)) := by
      rw [rdg_cons]
      have : (rdg T ++ (r.dropLast ++ [r[r.length - 1]])).Perm (r[r.length - 1] :: (rdg T ++ r.dropLast)) := by
        rw [← List.append_assoc]
        exact List.perm_append_singleton _ _
      rwa [← ed] at this
    show Tk _ _ (if r.length ≤ 1 then T else r.dropLast :: T) (r.getD (r.length - 1) 0)
    rw [el]
    by_cases c : r.length ≤ 1
    · rw [if_pos c]
      have hT : T = [] := by
        cases T with
        | nil => rfl
        | cons s T =>
          have := len_pos h.2.2.2.1
          simp [rowL] at hc
          omega
      subst hT
      obtain ⟨a, rfl⟩ : ∃ a, r = [a] := by
        match r, c, hr0 with
        | [a], _, _ => exact ⟨a, rfl⟩
      refine ⟨rfl, True.intro, hp, fun k => ?_, 0, by simp, rfl, by simp, fun k hk _ => by simp at hk⟩
      cases k <;> simp [rowL]
    · rw [if_neg c]
      have hd : r.dropLast ≠ [] := fun e => by
        have := congrArg List.length e
        simp at this
        omega
      have hlt : ∀ z ∈ r.dropLast, z ≤ r[r.length - 1] := fun z hz => by
        obtain ⟨k, hk, rfl⟩ := List.getElem_of_mem hz
        rw [List.getElem_dropLast]
        simp at hk
        have := h.2.1.get (i := k) (j := r.length - 1) (by omega) (by omega)
        omega
      refine ⟨?_, ⟨hd, h.2.1.sublist (List.dropLast_sublist r), ?_, h.2.2.2⟩, hp, fun k => ?_, r.length - 1, by simp; omega, rfl, by simp, fun k hk h2 => ⟨fun _ => by simp [List.getElem_dropLast], fun e => ?_⟩⟩
      · rw [layIn_cons, ins_end _ _ hlt, ← ed]
      · have := dom_iff.mp h.2.2.1
        have hl : (hd1 T).length < r.length := by
          cases T with
          | nil => exact hr0
          | cons s T => simpa [rowL, hd1] using hc
        refine dom_iff.mpr ⟨by simp; omega, fun j h1 h2 => ?_⟩
        rw [List.getElem_dropLast]
        exact this.2 j h1 (by omega)
      · cases k <;> simp [rowL]
      · subst e
        simp at hk
  | r :: T, i + 1, h, hn, hc => by
    have hc' : Corner T i := by simpa [Corner, rowL] using hc
    have hn' : (rdg T).Nodup := (List.nodup_append.mp hn).1
    have ih := takeO_ok h.2.2.2 hn' hc'
    generalize hT1 : (takeO T i).1 = T1 at ih
    generalize hn1 : (takeO T i).2 = n at ih
    show Tk _ _ (r.set (pl (takeO T i).2 r - 1) (takeO T i).2 :: (takeO T i).1) (r.getD (pl (takeO T i).2 r - 1) 0)
    rw [hT1, hn1]
    obtain ⟨j', hj', ej', hl', hk'⟩ := ih.head
    have hdom := dom_iff.mp h.2.2.1
    have hnr : n ∉ r := fun hm => (List.nodup_append.mp hn).2.2 n (ih.perm.mem_iff.mpr (.head _)) n hm rfl
    have hne : ∀ a (ha : a < r.length), r[a] ≠ n := fun a ha e => hnr (e ▸ List.getElem_mem ha)
    have hb := hdom.2 j' hj' (by omega)
    rw [ej'] at hb
    have hple := pl_le n r
    have hp : j' < pl n r := by
      by_cases c : j' < pl n r
      · exact c
      · have h1 := pl_hi (x := n) (r := r) (by omega)
        by_cases e : pl n r = j'
        · simp only [e] at h1; omega
        · have := h.2.1.get (i := pl n r) (j := j') (by omega) (by omega)
          omega
    generalize hj : pl n r - 1 = j at *
    have hjl : j < r.length := by omega
    have hjn : r[j] < n := by
      have := pl_lo (x := n) (r := r) (i := j) (by omega) hjl
      have := hne j hjl
      omega
    have hjn2 : ∀ h : j + 1 < r.length, n < r[j + 1] := fun h => by
      have := pl_hi (x := n) (r := r) (by omega)
      have e : pl n r = j + 1 := by omega
      simpa only [e] using this
    have eg : r.getD j 0 = r[j] := getD_at hjl
    rw [eg]
    refine ⟨?_, ⟨fun e => ?_, set_str h.2.1 hjl hjn hjn2, ?_, ih.tab⟩, ?_, fun k => ?_, j, hjl, rfl, by simp, fun k (hk : k < (r.set j n).length) (h2 : k < r.length) => ?_⟩
    · have e : ins (r.set j n) r[j] = (r, some n) := by
        have e1 : pl r[j] (r.set j n) = j := by
          refine pl_eq (by simp; omega) (fun a ha haj => ?_) fun _ => ?_
          · rw [List.getElem_set_ne (by omega)]
            have := h.2.1.get hjl haj
            omega
          · rw [List.getElem_set_self]; exact hjn
        rw [ins_pl, e1, if_pos (by simpa using hjl)]
        congr 1
        · rw [List.set_set]
          exact set_id (List.getElem?_eq_getElem hjl)
        · simp [List.getD_eq_getElem?_getD, hjl]
      rw [layIn_cons, e]
      simp only [ih.lay]
    · exact h.1 (by simpa using e)
    · refine dom_iff.mpr ⟨by simp; omega, fun k h1 h2 => ?_⟩
      rw [List.length_set] at h2
      have h3 : k < (hd1 T).length := by omega
      obtain ⟨k1, k2⟩ := hk' k h1 h3
      have k3 := hdom.2 k h3 h2
      have hs : Ris (hd1 T) := by
        cases T with
        | nil => exact .nil
        | cons s T => exact h.2.2.2.2.1
      rw [List.getElem_set]
      by_cases c : j = k
      · subst c
        rw [if_pos rfl]
        by_cases c2 : j = j'
        · exact k2 c2
        · rw [k1 c2, ← ej']
          exact hs.get h3 (by omega)
      · rw [if_neg c]
        by_cases c2 : k = j'
        · have := k2 c2
          subst c2
          omega
        · rw [k1 c2]; exact k3
    · rw [rdg_cons, rdg_cons]
      have p1 : (rdg T ++ r).Perm ((n :: rdg T1) ++ r) := ih.perm.append_right r
      refine p1.trans ?_
      have p2 : ((n :: rdg T1) ++ r).Perm (rdg T1 ++ (n :: r)) := by
        simpa using (List.perm_middle (a := n) (l₁ := rdg T1) (l₂ := r)).symm
      refine p2.trans ((set_perm n hjl).append_left _ |>.trans ?_)
      exact List.perm_middle
    · cases k with
      | zero => simp [rowL]
      | succ k =>
        have := ih.len k
        simpa [rowL] using this
    · constructor
      · intro hne
        show (r.set j n)[k] = r[k]
        rw [List.getElem_set_ne (by omega)]
      · intro e
        subst e
        show r[k] < (r.set k n)[k]
        rw [List.getElem_set_self]
        exact hjn
theorem takeO_lay : ∀ {T : List (List Int)} (x : Int), STab T → (rdg T).Nodup → x ∉ rdg T → takeO (layIn T x).1 (layIn T x).2 = (T, x)
  | [], x, _, _, _ => rfl
  | r :: T, x, h, hn, hx => by
    have hn2 := List.nodup_append.mp hn
    rw [rdg_cons, List.mem_append, not_or] at hx
    rw [layIn_cons, ins_pl]
    by_cases c : pl x r < r.length
    · rw [if_pos c]
      have hb := pl_hi c
      generalize hj : pl x r = j at *
      have eg : r.getD j 0 = r[j] := getD_at c
      rw [eg]
      simp only
      have ih := takeO_lay (T := T) r[j] h.2.2.2 hn2.1 (fun hm => hn2.2.2 _ hm _ (List.getElem_mem c) rfl)
      · have ep : pl r[j] (r.set j x) = j + 1 := by
          refine pl_eq (by simp; omega) (fun a ha haj => ?_) fun hh => ?_
          · rw [List.getElem_set]
            split
            · omega
            · have := h.2.1.get c (i := a) (by omega)
              omega
          · rw [List.getElem_set_ne (by omega)]
            exact h.2.1.get (by simpa using hh) (by omega)
        show ((r.set j x).set (pl (takeO (layIn T r[j]).1 (layIn T r[j]).2).2 (r.set j x) - 1) (takeO (layIn T r[j]).1 (layIn T r[j]).2).2 :: (takeO (layIn T r[j]).1 (layIn T r[j]).2).1, (r.set j x).getD (pl (takeO (layIn T r[j]).1 (layIn T r[j]).2).2 (r.set j x) - 1) 0) = _
        rw [ih]
        simp only [ep, Nat.add_sub_cancel, List.set_set]
        rw [set_id (List.getElem?_eq_getElem c)]
        simp [List.getD_eq_getElem?_getD, c]
    · rw [if_neg c]
      simp only
      show (if (r ++ [x]).length ≤ 1 then T else (r ++ [x]).dropLast :: T, (r ++ [x]).getD ((r ++ [x]).length - 1) 0) = _
      have := len_pos h.1
      rw [if_neg (by rw [List.length_append, List.length_singleton]; omega)]
      simp
theorem layIn_lens : ∀ (T : List (List Int)) (x : Int) (k : Nat), rowL (layIn T x).1 k = rowL T k + if k = (layIn T x).2 then 1 else 0
  | [], x, k => by
    cases k <;> simp [layIn, rowL]
  | r :: T, x, k => by
    rw [layIn_cons, ins_pl]
    by_cases c : pl x r < r.length
    · rw [if_pos c]
      simp only
      cases k with
      | zero => simp [rowL]
      | succ k =>
        have := layIn_lens T (r.getD (pl x r) 0) k
        simpa [rowL] using this
    · rw [if_neg c]
      simp only
      cases k <;> simp [rowL]
end Sw

/- part SwM11 -/
namespace Sw
open PySem L2
/-! ### comparing, both ways -/
theorem getD_ne {a b : List Int} (hl : a.length = b.length) (h : ∀ j, j < b.length → a.getD j 0 = b.getD j 0) : a = b := by
  apply List.ext_getElem? 
  intro j
  by_cases c : j < b.length
  · have := h j c
    rw [getD_at (by omega), getD_at c] at this
    rw [List.getElem?_eq_getElem (by omega), List.getElem?_eq_getElem c, this]
  · rw [List.getElem?_eq_none (by omega), List.getElem?_eq_none (by omega)]
theorem row_dec {a b : List Int} (h : b.length ≤ 16777216) : f_law_row (iD a) (iD b) = .rt (.bl (decide (a = b))) := by
  unfold f_law_row
  by_cases hl : a.length = b.length
  · have hli : ((a.length : Int) = (b.length : Int)) := by omega
    simp only [isi_list, Rs.bind_nx, Rs.to_nx, Out.bind_nx, ofB_some, asB_bl, lenD_lst, List.length_map, neO_int, hli, decide_true, ofO_some, Bool.not_true, Bool.false_eq_true, if_false, rngD1_len h]
    refine forU_ret (P := fun o => o = .rt (.bl (decide (a = b)))) (fun k _ => ∀ j, j < k → a.getD j 0 = b.getD j 0) (fun j hj => by omega) ?_ ?_
    · intro k s hk hj
      have i1 := ixD_getD (row := a) (a := k) (by omega)
      have i2 := ixD_getD (row := b) (a := k) hk
      by_cases c : a.getD k 0 = b.getD k 0
      · left
        refine ⟨(), ?_, fun j hj' => ?_⟩
        · simp only [i1, i2, Rs.bind_nx, isO, isN, ofO_some, Rs.to_nx, Bool.false_eq_true, if_false, whole_int, callN_rt, asB_bl, Bool.not_true, neO_int, c, decide_true, Out.bind_nx]
        · rcases Nat.lt_or_eq_of_le (Nat.le_of_lt_succ hj') with h | h
          · exact hj j h
          · rw [h]; exact c
      · right
        refine ⟨.bl false, ?_, ?_⟩
        · simp only [i1, i2, Rs.bind_nx, isO, isN, ofO_some, Rs.to_nx, Bool.false_eq_true, if_false, whole_int, callN_rt, asB_bl, Bool.not_true, neO_int, c, decide_false, Bool.not_false, if_true, Out.bind_rt]
        · rw [decide_eq_false]
          intro e
          rw [e] at c
          exact c rfl
    · intro _ hj
      rw [decide_eq_true (getD_ne hl hj)]
      try rfl
  · have hli : ¬ ((a.length : Int) = (b.length : Int)) := by omega
    have hne : a ≠ b := fun e => hl (by rw [e])
    simp only [isi_list, Rs.bind_nx, Rs.to_nx, Out.bind_nx, ofB_some, asB_bl, lenD_lst, List.length_map, neO_int, hli, decide_false, ofO_some, Bool.not_true, Bool.not_false, Bool.false_eq_true, if_false, if_true, Out.bind_rt, decide_eq_false hne]
theorem rows_ne {a b : List (List Int)} (hl : a.length = b.length) (h : ∀ j, j < b.length → a.getD j [] = b.getD j []) : a = b := by
  apply List.ext_getElem? 
  intro j
  by_cases c : j < b.length
  · have := h j c
    simp only [List.getD, List.getElem?_eq_getElem c, List.getElem?_eq_getElem (show j < a.length by omega), Option.getD_some] at this
    rw [List.getElem?_eq_getElem (by omega), List.getElem?_eq_getElem c, this]
  · rw [List.getElem?_eq_none (by omega), List.getElem?_eq_none (by omega)]
theorem rows_getD {T : List (List Int)} {k : Nat} (h : k < T.length) : T.getD k [] = T[k] := by
  simp [List.getD, List.getElem?_eq_getElem h]
theorem rows_dec {a b : List (List Int)} (h : b.length ≤ 16777216) (hr : ∀ r ∈ b, r.length ≤ 16777216) : f_law_rows (rD a) (rD b) = .rt (.bl (decide (a = b))) := by
  unfold f_law_rows
  by_cases hl : a.length = b.length
  · have hli : ((a.length : Int) = (b.length : Int)) := by omega
    simp only [isi_list, Rs.bind_nx, Rs.to_nx, Out.bind_nx, ofB_some, asB_bl, lenD_lst, List.length_map, neO_int, hli, decide_true, ofO_some, Bool.not_true, Bool.false_eq_true, if_false, rngD1_len h]
    refine forU_ret (P := fun o => o = .rt (.bl (decide (a = b)))) (fun k _ => ∀ j, j < k → a.getD j [] = b.getD j []) (fun j hj => by omega) ?_ ?_
    · intro k s hk hj
      have i1 := ixD_rD (rows := a) (j := k) (by omega)
      have i2 := ixD_rD (rows := b) (j := k) hk
      have hd := row_dec (a := a[k]'(by omega)) (hr _ (List.getElem_mem hk))
      by_cases c : a[k]'(by omega) = b[k]
      · left
        refine ⟨(), ?_, fun j hj' => ?_⟩
        · rw [decide_eq_true c] at hd
          simp only [i1, i2, Rs.bind_nx, hd, callN_rt, asB_bl, Bool.not_true, Rs.to_nx, Bool.false_eq_true, if_false, Out.bind_nx]
        · rcases Nat.lt_or_eq_of_le (Nat.le_of_lt_succ hj') with h | h
          · exact hj j h
          · rw [h, rows_getD hk, rows_getD (by omega)]; exact c
      · right
        rw [decide_eq_false c] at hd
        refine ⟨.bl false, ?_, ?_⟩
        · simp only [i1, i2, Rs.bind_nx, hd, callN_rt, asB_bl, Bool.not_false, Rs.to_nx, if_true, Out.bind_rt]
        · rw [decide_eq_false]
          intro e
          subst e
          exact c rfl
    · intro _ hj
      rw [decide_eq_true (rows_ne hl hj)]
      try rfl
  · have hli : ¬ ((a.length : Int) = (b.length : Int)) := by omega
    have hne : a ≠ b := fun e => hl (by rw [e])
    simp only [isi_list, Rs.bind_nx, Rs.to_nx, Out.bind_nx, ofB_some, asB_bl, lenD_lst, List.length_map, neO_int, hli, decide_false, ofO_some, Bool.not_true, Bool.not_false, Bool.false_eq_true, if_false, if_true, Out.bind_rt, decide_eq_false hne]
end Sw

/- part PlI -/
/-! Taking out: what the program's functions compute. -/
namespace Sw
open PySem L2
instance (T : List (List Int)) (i : Nat) : Decidable (Corner T i) := inferInstanceAs (Decidable (_ < _))
theorem STab.drop : ∀ {T : List (List Int)} (k : Nat), STab T → STab (T.drop k)
  | T, 0, h => h
  | [], k + 1, h => h
  | r :: T, k + 1, h => STab.drop k h.2.2.2
theorem rdg_drop : ∀ (T : List (List Int)) (k : Nat), (rdg (T.drop k)).Sublist (rdg T)
  | T, 0 => List.Sublist.refl _
  | [], k + 1 => List.Sublist.refl _
  | r :: T, k + 1 => (rdg_drop T k).trans (List.sublist_append_left _ _)
theorem rowL_drop (T : List (List Int)) (k i : Nat) : rowL (T.drop k) i = rowL T (k + i) := by
  simp [rowL, List.getD_eq_getElem?_getD]
theorem corner_drop {T : List (List Int)} {k i : Nat} : Corner (T.drop k) i ↔ Corner T (k + i) := by
  unfold Corner
  rw [rowL_drop, rowL_drop, Nat.add_assoc]
theorem rowL_at {T : List (List Int)} {k : Nat} (h : k < T.length) : rowL T k = T[k].length := by
  simp [rowL, List.getD_eq_getElem?_getD, h]
theorem rowL_out {T : List (List Int)} {k : Nat} (h : T.length ≤ k) : rowL T k = 0 := by
  simp [rowL, List.getD_eq_getElem?_getD, h]
theorem corner_lt {T : List (List Int)} {i : Nat} (h : Corner T i) : i < T.length := by
  by_cases c : i < T.length
  · exact c
  · unfold Corner at h
    rw [rowL_out (k := i) (by omega)] at h
    omega
theorem corner_out {T : List (List Int)} {a : Int} (h : a < 0 ∨ (T.length : Int) ≤ a) : f_is_corner (rD T) (.int a) = .rt (.bl false) := by
  unfold f_is_corner
  simp only [Rs.bind_nx, ltO_int, ofO_some, lenD_lst, List.length_map, geO_int]
  rcases h with h | h
  · simp [h]
  · by_cases c : a < 0
    · simp [c]
    · simp [c, h]
theorem corner_eq {T : List (List Int)} {i : Nat} (hne : ∀ r ∈ T, r ≠ []) (hi : i < T.length) : f_is_corner (rD T) (.int (i : Int)) = .rt (.bl (decide (Corner T i))) := by
  unfold f_is_corner
  have h1 : ¬ ((i : Int) < 0) := by omega
  have h2 : ¬ ((T.length : Int) ≤ i) := by omega
  simp only [Rs.bind_nx, ltO_int, ofO_some, lenD_lst, List.length_map, geO_int, h1, h2, decide_false, Bool.false_eq_true, if_false, Rs.to_nx, Out.bind_nx, intD_int, eqO_int, ofB_some]
  by_cases c : (i : Int) = (T.length : Int) - 1
  · have hc : Corner T i := by
      unfold Corner
      rw [rowL_out (by omega), rowL_at hi]
      exact len_pos (hne _ (List.getElem_mem hi))
    simp [c, orD, hc]
  · have h3 : i + 1 < T.length := by omega
    have e : ((i : Int) + 1) = ((i + 1 : Nat) : Int) := by omega
    simp only [c, decide_false, orD, e, ixD_rD h3, ixD_rD hi, Rs.bind_nx, lenD_lst, List.length_map, ltO_int, ofB_some, Rs.to_nx]
    have : decide ((T[i + 1].length : Int) < T[i].length) = decide (Corner T i) := by
      apply decide_eq_decide.mpr
      unfold Corner
      rw [rowL_at h3, rowL_at hi]
      omega
    rw [this]
@[simp] theorem negD_i (i : Int) : negD (.int i) = .nx (.int (-i)) := id rfl
theorem take_pl {r : List Int} {T : List (List Int)} {i : Nat} (h : STab (r :: T)) (hn : (rdg T).Nodup) (hc : Corner T i) : 0 < pl (takeO T i).2 r := by
  obtain ⟨j', hj', ej', _⟩ := (takeO_ok h.2.2.2 hn hc).head
  have hdom := dom_iff.mp h.2.2.1
  have hb := hdom.2 j' hj' (by omega)
  by_cases c : 0 < pl (takeO T i).2 r
  · exact c
  · have e : pl (takeO T i).2 r = 0 := by omega
    have h1 := pl_hi (x := (takeO T i).2) (r := r) (by omega)
    simp only [e] at h1
    by_cases e2 : j' = 0
    · subst e2; omega
    · have := h.2.1.get (i := 0) (j := j') (by omega) (by omega)
      omega
theorem pop_at {T : List (List Int)} {i : Nat} (h : i < T.length) : popInD (rD T) (.int (i : Int)) = rD (T.set i T[i].dropLast) := by
  unfold popInD
  rw [idxD_rD h]
  simp only [plGet_some h]
  rw [← List.map_dropLast, plPut_some]
theorem last_at {T : List (List Int)} {i : Nat} (h : i < T.length) (h2 : T[i] ≠ []) : lastInD (rD T) (.int (i : Int)) = .nx (.int (T[i].getD (T[i].length - 1) 0)) := by
  unfold lastInD
  rw [idxD_rD h]
  simp only [plGet_some h]
  have := len_pos h2
  rw [List.length_map, List.getElem?_map, List.getElem?_eq_getElem (by omega), getD_at (by omega)]
  rfl
theorem rngD3_dn {i : Nat} (h : i < 1000000) : rngD3 [.int ((i : Int) - 1), .int (-1), .int (-1)] = .nx ((List.range i).map fun (t : Nat) => D.int ((i : Int) - 1 - t)) := by
  show (if (-1 : Int) = -1 ∧ -(2 ^ 62) ≤ (i : Int) - 1 ∧ (i : Int) - 1 < 2 ^ 62 ∧ -(2 ^ 62) ≤ (-1 : Int) ∧ (-1 : Int) < 2 ^ 62 then Rs.nx ((List.range ((i : Int) - 1 - -1).toNat).map fun (t : Nat) => D.int ((i : Int) - 1 - t)) else .err) = _
  rw [if_pos (by omega), show ((i : Int) - 1 - -1).toNat = i by omega]
theorem take_no {T : List (List Int)} {a : Int} (h : f_is_corner (rD T) (.int a) = .rt (.bl false)) : f_take_out (rD T) (.int a) = .exc "NoPlace" := by
  unfold f_take_out
  simp [h]
theorem take_out_eq {T : List (List Int)} {i : Nat} (h : STab T) (hn : (rdg T).Nodup) (hc : Corner T i) (hl : T.length ≤ 500) (hr : ∀ r ∈ T, r.length ≤ 900) :
    f_take_out (rD T) (.int (i : Int)) = .rt (.tup [rD (takeO T i).1, .int (takeO T i).2]) := by
  have hi := corner_lt hc
  unfold f_take_out
  have hcp := copy_rD (rows := T) (by omega)
  simp only [Rs.bind_nx] at hcp
  have hne := STab.ne h
  have hTi := hne _ (List.getElem_mem hi)
  simp only [Rs.bind_nx, corner_eq hne hi, hc, decide_true, callN_rt, asB_bl, Bool.not_true, Rs.to_nx, Bool.false_eq_true, if_false, Out.bind_nx, hcp, last_at hi hTi, pop_at hi]
  have hix : ixD (rD (T.set i T[i].dropLast)) (.int (i : Int)) = .nx (iD T[i].dropLast) := by
    rw [ixD_rD (by simpa using hi)]
    simp
  have hdi : T.drop i = T[i] :: T.drop (i + 1) := List.drop_eq_getElem_cons hi
  have hmade : ∃ M, (if (decide (((T[i].dropLast.length : Nat) : Int) = 0)) = true then ((lastD (rD (T.set i T[i].dropLast))).to fun _ => (Out.nx (popD (rD (T.set i T[i].dropLast))) : Out Unit D)) else Out.nx (rD (T.set i T[i].dropLast))) = .nx (rD M) ∧ M = T.take i ++ (takeO (T.drop i) 0).1 := by
    by_cases c : T[i].length ≤ 1
    · have e1 : T.drop (i + 1) = [] := by
        have : ¬ i + 1 < T.length := fun c2 => by
          unfold Corner at hc
          rw [rowL_at c2, rowL_at hi] at hc
          have := len_pos (hne _ (List.getElem_mem c2))
          omega
        exact List.drop_eq_nil_of_le (by omega)
      have e2 : i + 1 = T.length := by have := congrArg List.length e1; simp at this; omega
      refine ⟨T.take i, ?_, ?_⟩
      · have e3 : T[i].dropLast = [] := List.eq_nil_of_length_eq_zero (by simp; omega)
        rw [e3]
        simp only [List.length_nil, decide_true, if_true]
        have e4 : T.set i [] = T.take i ++ [[]] := by
          rw [List.set_eq_take_append_cons_drop, if_pos hi, e1]
        rw [e4]
        show ((match ((T.take i ++ [[]]).map iD)[((T.take i ++ [[]]).map iD).length - 1]? with | some d => Rs.nx d | none => .err).to fun _ => (Out.nx (.lst (((T.take i ++ [[]]).map iD).dropLast)) : Out Unit D)) = _
        simp
      · rw [hdi, e1, takeO, if_pos c]
        simp
    · refine ⟨T.set i T[i].dropLast, ?_, ?_⟩
      · have : ¬ (((T[i].dropLast.length : Nat) : Int) = 0) := by simp; omega
        simp only [this, decide_false, Bool.false_eq_true, if_false]
      · rw [hdi, takeO, if_neg c, List.set_eq_take_append_cons_drop, if_pos hi]
  obtain ⟨M, hM, eM⟩ := hmade
  simp only [hix, Rs.bind_nx, lenD_lst, List.length_map, eqO_int, ofO_some, Rs.to_nx, hM, Out.bind_nx, intD_int, negD_i, rngD3_dn (show i < 1000000 by omega)]
  have e0 : T[i].getD (T[i].length - 1) 0 = (takeO (T.drop i) 0).2 := by rw [hdi]; rfl
  rw [e0, eM]
  refine forL_then (P := fun o => o = .rt (.tup [rD (takeO T i).1, .int (takeO T i).2])) (fun t (s : D × D) => s = (rD (T.take (i - t) ++ (takeO (T.drop (i - t)) t).1), .int (takeO (T.drop (i - t)) t).2)) rfl ?_ ?_
  · intro t d s hd hs
    obtain ⟨ht, e⟩ := map_get hd
    simp only [List.length_range] at ht
    rw [List.getElem_range] at e
    subst e hs
    obtain ⟨k, hk⟩ : ∃ k, i - t = k + 1 := ⟨i - t - 1, by omega⟩
    have hkt : i - (t + 1) = k := by omega
    have hkl : k < T.length := by omega
    have ek : (i : Int) - 1 - t = (k : Int) := by omega
    have hdk : T.drop k = T[k] :: T.drop (k + 1) := List.drop_eq_getElem_cons hkl
    have hs' : STab (T[k] :: T.drop (k + 1)) := by rw [← hdk]; exact h.drop k
    have hn' : (rdg (T.drop (k + 1))).Nodup := hn.sublist (rdg_drop T (k + 1))
    have hc' : Corner (T.drop (k + 1)) t := corner_drop.mpr (by rw [show k + 1 + t = i by omega]; exact hc)
    have hp := take_pl hs' hn' hc'
    rw [hkt, hk, hdk, takeO]
    simp only
    generalize hX : (takeO (T.drop (k + 1)) t).1 = X
    generalize hN : (takeO (T.drop (k + 1)) t).2 = n at *
    have hple := pl_le n T[k]
    have b1 : k < (T.take (k + 1) ++ X).length := by simp; omega
    have bg : (T.take (k + 1) ++ X)[k] = T[k] := by
      rw [List.getElem_append_left (by simp; omega), List.getElem_take]
    have b2 := ixD_rD (rows := T.take (k + 1) ++ X) b1
    rw [bg] at b2
    have b3 := idxD_rD (rows := T.take (k + 1) ++ X) b1
    have hrk := hr _ (List.getElem_mem hkl)
    generalize hj : pl n T[k] - 1 = j at *
    have hjl : j < T[k].length := by omega
    have b4 := edD_set (rows := T.take (k + 1) ++ X) (x := n) (j := k) (k := j) b1 (by rw [bg]; exact hjl)
    rw [bg] at b4
    have b5 : (T.take (k + 1) ++ X).set k (T[k].set j n) = T.take k ++ (T[k].set j n :: X) := by
      rw [List.set_append_left _ _ (by simp; omega), List.take_succ_eq_append_getElem hkl, List.set_append_right _ _ (by simp; omega)]
      simp [Nat.min_eq_left (Nat.le_of_lt hkl)]
    rw [b5] at b4
    refine ⟨_, ?_, rfl⟩
    simp only [ek, b2, Rs.bind_nx, lenD_lst, List.length_map, intD_int, Rs.to_nx]
    refine whileF_run (P := fun o => o = _) (fun (m : Nat) s => s = .int (m : Int) ∧ j ≤ m ∧ m < T[k].length) id ?_ (t := T[k].length - 1) ⟨by congr 1; omega, by omega, by omega⟩ (by show T[k].length - 1 < 1000; omega)
    rintro m s ⟨rfl, h1, h2⟩
    simp only [ixD_iD h2, Rs.bind_nx, gtO_int, ofO_some]
    by_cases c : m = j
    · left
      subst c
      have := pl_lo (x := n) (r := T[k]) (i := m) (by omega) h2
      refine ⟨by simp; omega, ?_⟩
      simp only [ixD_iD h2, Rs.bind_nx, at_int, Rs.to_nx, b3, b4, getD_at h2]
    · right
      have h4 : n < T[k][m] := by
        have := pl_hi (x := n) (r := T[k]) (by omega)
        by_cases c2 : pl n T[k] = m
        · simp only [c2] at this; exact this
        · have := hs'.2.1.get h2 (i := pl n T[k]) (by omega)
          omega
      refine ⟨by simp [h4], .inl ⟨_, m - 1, ?_, ⟨rfl, by omega, by omega⟩, by simp only [id]; omega⟩⟩
      simp only [intD_int, Rs.to_nx]
      congr 2
      omega
  · intro s hs
    subst hs
    simp only [List.length_map, List.length_range, Nat.sub_self, List.take_zero, List.nil_append, List.drop_zero, Rs.bind_nx, at_int, full3_rDi, Rs.to_nx]
end Sw

/- part PlJ -/
/-! Looks: loops that answer False at the first bad place; stairs told by places. -/
namespace Sw
open PySem L2
theorem forL_chkL {β ι : Type} {b : ι → Unit → Out Unit Unit} {c : ι → Bool} : ∀ {ds : List ι}, (∀ d ∈ ds, b d () = if c d = true then .nx () else .rt (.bl false)) →
    (forL b ds () : Out β Unit) = if ds.all c = true then .nx () else .rt (.bl false)
  | [], _ => rfl
  | d :: r, h => by
    rw [forL_cons, h d (.head _), List.all_cons]
    cases hc : c d with
    | true => simpa using forL_chkL (fun e he => h e (.tail _ he))
    | false => simp
theorem forL_chk {β : Type} {b : D → Unit → Out Unit Unit} {c : Nat → Bool} {n : Nat} (h : ∀ j < n, b (.int (j : Int)) () = if c j = true then .nx () else .rt (.bl false)) :
    (forL b (upto n) () : Out β Unit) = if (List.range n).all c = true then .nx () else .rt (.bl false) := by
  have : ∀ (l : List Nat), (∀ j ∈ l, j < n) → (forL b (l.map fun i : Nat => D.int i) () : Out β Unit) = if l.all c = true then .nx () else .rt (.bl false) := by
    intro l
    induction l with
    | nil => intro _; rfl
    | cons j l ih =>
      intro hl
      rw [List.map_cons, forL_cons, h j (hl j (.head _)), List.all_cons]
      cases hc : c j with
      | true => simpa using ih fun k hk => hl k (.tail _ hk)
      | false => simp
  exact this (List.range n) fun j hj => List.mem_range.mp hj
theorem all_range {n : Nat} {c : Nat → Bool} : (List.range n).all c = true ↔ ∀ j < n, c j = true := by
  simp [List.all_eq_true]
/-! ### unlike numbers -/
theorem many1_take (ns : List Int) : ∀ i, i ≤ ns.length → ((PyProof.Rows.firstMet (fun i => ns.getD i 0) i).length = i ↔ (ns.take i).Nodup)
  | 0, _ => by simp [PyProof.Rows.firstMet_zero]
  | i + 1, h => by
    have hi : i < ns.length := by omega
    have ih := many1_take ns i (by omega)
    have hle := firstMet_le (fun i => ns.getD i 0) i
    have hm := PyProof.Rows.firstMet_any (fun i => ns.getD i 0) i (ns.getD i 0)
    have ht : (List.range i).map (fun i => ns.getD i 0) = ns.take i := by
      apply List.ext_getElem
      · simp; omega
      · intro k h1 h2
        simp at h1
        rw [List.getElem_map, List.getElem_range, List.getElem_take, getD_at (by omega)]
    rw [ht] at hm
    rw [PyProof.Rows.firstMet_succ]
    unfold PyProof.Rows.step_dedup
    rw [List.take_succ_eq_append_getElem hi]
    have hg : ns.getD i 0 = ns[i] := getD_at hi
    rw [hm, hg]
    by_cases c : ns[i] ∈ ns.take i
    · have : ((ns.take i).any fun x => x == ns[i]) = true := by
        rw [List.any_eq_true]; exact ⟨_, c, by simp⟩
      rw [if_pos this]
      constructor
      · intro e; omega
      · intro e
        exact absurd rfl ((List.nodup_append.mp e).2.2 _ c _ (.head _))
    · have : ¬ ((ns.take i).any fun x => x == ns[i]) = true := by
        rw [List.any_eq_true]
        rintro ⟨x, hx, e⟩
        have : x = ns[i] := by simpa using e
        exact c (this ▸ hx)
      rw [if_neg this, List.length_append, List.length_singleton]
      constructor
      · intro e
        refine List.nodup_append.mpr ⟨ih.mp (by omega), by simp, fun a ha b hb e2 => ?_⟩
        simp at hb
        subst hb e2
        exact c ha
      · intro e
        have := ih.mpr (List.nodup_append.mp e).1
        omega
theorem setD_iD {ns : List Int} (h : ns.length ≤ 4000) : setD (iD ns) = .nx (.int (many1 ns : Nat)) := by
  show (match getInts (ns.map D.int) with | some ns => if ns.length ≤ 4000 then (.nx (.int (many1 ns : Nat)) : Rs D) else .err | none => .err) = _
  rw [getInts_map]
  simp [h]
theorem many1_eq (ns : List Int) : many1 ns = ns.length ↔ ns.Nodup := by
  have := many1_take ns ns.length (Nat.le_refl _)
  rwa [List.take_length] at this
theorem set_eq (ns : List Int) : decide ((many1 ns : Int) = (ns.length : Int)) = decide ns.Nodup := by
  apply decide_eq_decide.mpr
  rw [← many1_eq]
  omega
/-! ### stairs, place by place -/
def cell (T : List (List Int)) (k j : Nat) : Int := (T.getD k []).getD j 0
def shpB (ls : List Nat) : Bool := (List.range ls.length).all fun k => decide (0 < ls.getD k 0) && (decide (k = 0) || decide (ls.getD k 0 ≤ ls.getD (k - 1) 0))
def cellB (T : List (List Int)) (k j : Nat) : Bool := (decide (j = 0) || decide (cell T k (j - 1) < cell T k j)) && (decide (k = 0) || decide (cell T (k - 1) j < cell T k j))
def cellsB (T : List (List Int)) : Bool := (List.range T.length).all fun k => (List.range (rowL T k)).all (cellB T k)
theorem rowL_lens (T : List (List Int)) (k : Nat) : (T.map List.length).getD k 0 = rowL T k := by
  simp only [rowL, List.getD_eq_getElem?_getD, List.getElem?_map]
  cases T[k]? <;> rfl
theorem str_iff {r : List Int} : Ris r ↔ ∀ j < r.length, 0 < j → r.getD (j - 1) 0 < r.getD j 0 := by
  constructor
  · intro h j hj h0
    rw [getD_at (by omega), getD_at hj]
    exact h.get hj (by omega)
  · intro h
    have go : ∀ (d i : Nat) (hd : i + d + 1 < r.length), r[i] < r[i + d + 1] := by
      intro d
      induction d with
      | zero =>
        intro i hd
        have := h (i + 1) hd (by omega)
        rw [getD_at (by omega), getD_at hd] at this
        exact this
      | succ d ih =>
        intro i hd
        have h1 := ih i (by omega)
        have h2 := h (i + (d + 1) + 1) hd (by omega)
        rw [getD_at (by omega), getD_at hd] at h2
        have e : i + (d + 1) + 1 - 1 = i + d + 1 := by omega
        simp only [e] at h2
        omega
    refine List.pairwise_iff_getElem.mpr fun i j hi hj hij => ?_
    have := go (j - i - 1) i (by omega)
    have e : i + (j - i - 1) + 1 = j := by omega
    simpa only [e] using this
theorem stab_iff : ∀ {T : List (List Int)}, STab T ↔ shpB (T.map List.length) = true ∧ cellsB T = true
  | [] => by simp [STab, shpB, cellsB]
  | r :: T => by
    have ih := stab_iff (T := T)
    show (r ≠ [] ∧ Ris r ∧ Dom r (hd1 T) ∧ STab T) ↔ _
    rw [ih, dom_iff, str_iff]
    unfold shpB cellsB
    rw [all_range, all_range, all_range, all_range]
    simp only [rowL_lens, List.length_map, List.length_cons, all_range, cellB, Bool.and_eq_true, Bool.or_eq_true, decide_eq_true_eq]
    have r0 : rowL (r :: T) 0 = r.length := rfl
    have rs : ∀ k, rowL (r :: T) (k + 1) = rowL T k := fun k => by simp [rowL]
    have c0 : ∀ j, cell (r :: T) 0 j = r.getD j 0 := fun j => rfl
    have cs : ∀ k j, cell (r :: T) (k + 1) j = cell T k j := fun k j => by simp [cell]
    have hd0 : (hd1 T).length = rowL T 0 := by cases T <;> rfl
    have hdc : ∀ j (h : j < (hd1 T).length), (hd1 T)[j] = cell T 0 j := fun j h => by
      cases T with
      | nil => simp [hd1] at h
      | cons s T =>
        have h : j < s.length := h
        rw [c0' s T]
        exact (getD_at h).symm
    constructor
    · rintro ⟨h1, h2, ⟨h3, h4⟩, h5, h6⟩
      refine ⟨fun k hk => ?_, fun k hk j hj => ?_⟩
      · cases k with
        | zero => exact ⟨by rw [r0]; exact len_pos h1, .inl rfl⟩
        | succ k =>
          rw [rs]
          refine ⟨(h5 k (by omega)).1, .inr ?_⟩
          cases k with
          | zero => show rowL T 0 ≤ rowL (r :: T) 0; rw [r0, ← hd0]; exact h3
          | succ k =>
            have := (h5 (k + 1) (by omega)).2
            simp only [Nat.add_sub_cancel, rs]
            simpa using this
      · cases k with
        | zero =>
          refine ⟨?_, .inl rfl⟩
          rw [r0] at hj
          simp only [c0]
          by_cases c : j = 0
          · exact .inl c
          · exact .inr (h2 j hj (by omega))
        | succ k =>
          rw [rs] at hj
          have := h6 k (by omega) j hj
          simp only [cs, Nat.add_sub_cancel]
          refine ⟨this.1, .inr ?_⟩
          cases k with
          | zero =>
            rw [c0]
            have h7 : j < (hd1 T).length := by rw [hd0]; exact hj
            have := h4 j h7 (by omega)
            rw [hdc j h7] at this
            rwa [getD_at (by omega)]
          | succ k =>
            rw [cs]
            simpa using this.2
    · rintro ⟨h1, h2⟩
      refine ⟨fun e => ?_, fun j hj h0 => ?_, ⟨?_, fun j hj hj2 => ?_⟩, fun k hk => ?_, fun k hk j hj => ?_⟩
      · have := (h1 0 (by omega)).1
        rw [r0, e] at this
        simp at this
      · have := (h2 0 (by omega) j (by rw [r0]; exact hj)).1
        simp only [c0] at this
        exact this.resolve_left (by omega)
      · by_cases c : T = []
        · subst c; simp [hd1]
        · have := (h1 1 (by have := len_pos c; omega)).2
          have := this.resolve_left (by omega)
          rw [hd0, ← rs, ← r0]
          exact this
      · have c : 0 < T.length := by
          cases T with
          | nil => simp [hd1] at hj
          | cons s T => simp
        have := (h2 1 (by omega) j (by rw [rs, ← hd0]; exact hj)).2
        have := this.resolve_left (by omega)
        rw [show (1 : Nat) = 0 + 1 from rfl, cs, ← hdc j hj] at this
        have e : cell (r :: T) (0 + 1 - 1) j = r.getD j 0 := rfl
        rw [e, getD_at hj2] at this
        exact this
      · have := h1 (k + 1) (by omega)
        rw [rs] at this
        refine ⟨this.1, ?_⟩
        cases k with
        | zero => exact .inl rfl
        | succ k =>
          right
          have := this.2.resolve_left (by omega)
          simpa [rs] using this
      · have := h2 (k + 1) (by omega) j (by rw [rs]; exact hj)
        simp only [cs, Nat.add_sub_cancel] at this
        refine ⟨this.1, ?_⟩
        cases k with
        | zero => exact .inl rfl
        | succ k =>
          right
          have := this.2.resolve_left (by omega)
          simpa [cs] using this
where c0' (s : List Int) (T : List (List Int)) : ∀ {j : Nat}, cell (s :: T) 0 j = s.getD j 0 := rfl
instance decSTab (T : List (List Int)) : Decidable (STab T) := decidable_of_iff _ stab_iff.symm
/-- stairs: what is_stairs asks -/
def Stairs (T : List (List Int)) : Prop := STab T ∧ (rdg T).Nodup
instance (T : List (List Int)) : Decidable (Stairs T) := inferInstanceAs (Decidable (_ ∧ _))
theorem cell_at {T : List (List Int)} {k j : Nat} (h : k < T.length) (h2 : j < T[k].length) : cell T k j = T[k][j] := by
  simp [cell, List.getD_eq_getElem?_getD, h, h2]
theorem ixD_cell {T : List (List Int)} {k j : Nat} (h : k < T.length) (h2 : j < T[k].length) : ixD (iD T[k]) (.int (j : Int)) = .nx (.int (cell T k j)) := by
  rw [ixD_iD h2, cell_at h h2]
theorem lens_rD {T : List (List Int)} (h : T.length ≤ 16777216) : compS yes (fun d => lenD [d]) (rD T) = .nx (iD (T.map fun r => (r.length : Int))) := by
  rw [compS_all iD (fun r => D.int (r.length : Int)) T h (fun r _ => by simp)]
  simp [Function.comp_def]
theorem shape_lens {T : List (List Int)} (h : T.length ≤ 16777216) : f_is_shape (iD (T.map fun r => (r.length : Int))) = .rt (.bl (shpB (T.map List.length))) := by
  unfold f_is_shape
  simp only [Rs.bind_nx, lenD_lst, List.length_map, Rs.to_nx, rngD1_len h]
  rw [forL_chk (c := fun k => decide (0 < rowL T k) && (decide (k = 0) || decide (rowL T k ≤ rowL T (k - 1))))]
  · unfold shpB
    simp only [List.length_map, rowL_lens]
    by_cases c : ((List.range T.length).all fun k => decide (0 < rowL T k) && (decide (k = 0) || decide (rowL T k ≤ rowL T (k - 1)))) = true
    · simp only [if_pos c, c]
      rfl
    · have c' : ((List.range T.length).all fun k => decide (0 < rowL T k) && (decide (k = 0) || decide (rowL T k ≤ rowL T (k - 1)))) = false := by simpa using c
      simp only [if_neg c, c']
      rfl
  · intro k hk
    have i1 : ixD (iD (T.map fun r => (r.length : Int))) (.int (k : Int)) = .nx (.int (rowL T k : Int)) := by
      rw [ixD_iD (by simpa using hk), List.getElem_map, rowL_at hk]
    simp only [i1, Rs.bind_nx, ltO_int, ofO_some, gtO_int]
    by_cases c1 : rowL T k = 0
    · simp [c1]
    · have e1 : ¬ ((rowL T k : Int) < 1) := by omega
      have e2 : 0 < rowL T k := by omega
      simp only [e1, e2, decide_false, decide_true, Bool.false_eq_true, if_false, Bool.true_and]
      by_cases c2 : k = 0
      · subst c2; simp
      · have e3 : (0 : Int) < (k : Int) := by omega
        have e4 : ((k : Int) - 1) = ((k - 1 : Nat) : Int) := by omega
        have i2 : ixD (iD (T.map fun r => (r.length : Int))) (.int ((k - 1 : Nat) : Int)) = .nx (.int (rowL T (k - 1) : Int)) := by
          rw [ixD_iD (by simp; omega), List.getElem_map, rowL_at (by omega)]
        simp only [e3, decide_true, if_true, intD_int, Rs.bind_nx, e4, i2, ltO_int, ofO_some, Rs.to_nx, c2, decide_false, Bool.false_or]
        by_cases c3 : rowL T k ≤ rowL T (k - 1)
        · have : ¬ ((rowL T (k - 1) : Int) < rowL T k) := by omega
          simp [c3, this]
        · have : ((rowL T (k - 1) : Int) < rowL T k) := by omega
          simp [c3, this]
theorem chk_end {c : Bool} {o : Out Unit Unit} : ((if c = true then (Out.nx () : Out Unit Unit) else .rt (.bl false)).bind fun _ => o) = if c = true then o else .rt (.bl false) := by
  cases c <;> rfl
theorem is_stairs_eq {T : List (List Int)} (hl : (rdg T).length ≤ 900) (hT : T.length ≤ 900) : f_is_stairs (rD T) = .rt (.bl (decide (Stairs T))) := by
  unfold f_is_stairs
  have hlr : ∀ r ∈ T, r.length ≤ 900 := fun r hr => by have := rdg_len hr; omega
  simp only [Rs.bind_nx, lens_rD (T := T) (by omega), shape_lens (T := T) (by omega), callN_rt, asB_bl, Rs.to_nx]
  cases hs : shpB (T.map List.length) with
  | false =>
    have : ¬ Stairs T := fun h => by rw [(stab_iff.mp h.1).1] at hs; cases hs
    simp [this]
  | true =>
    simp only [Bool.not_true, Bool.false_eq_true, if_false, Out.bind_nx, Rs.to_nx, Rs.bind_nx, lenD_lst, List.length_map, rngD1_len (show T.length ≤ 16777216 by omega)]
    have hsh := hs
    unfold shpB at hsh
    simp only [List.length_map, all_range, rowL_lens, Bool.and_eq_true, Bool.or_eq_true, decide_eq_true_eq] at hsh
    rw [forL_chk (c := fun k => (List.range (rowL T k)).all (cellB T k))]
    · rw [chk_end]
      show (if cellsB T = true then _ else _) = _
      cases hc : cellsB T with
      | false =>
        have : ¬ Stairs T := fun h => by rw [(stab_iff.mp h.1).2] at hc; cases hc
        simp [this]
      | true =>
        have : Stairs T ↔ (rdg T).Nodup := ⟨fun h => h.2, fun h => ⟨stab_iff.mpr ⟨hs, hc⟩, h⟩⟩
        simp only [reading_eq (T := T) (by omega), callN_rt, Rs.to_nx, Rs.bind_nx, setD_iD (ns := rdg T) (by omega), lenD_lst, List.length_map, eqO_int, ofB_some, set_eq, if_true, decide_eq_decide.mpr this]
    · intro k hk
      have hrow := hlr _ (List.getElem_mem hk)
      simp only [ixD_rD hk, Rs.bind_nx, lenD_lst, List.length_map, Rs.to_nx, rngD1_len (show T[k].length ≤ 16777216 by omega)]
      rw [forL_chk (c := cellB T k)]
      · rw [chk_end, rowL_at hk]
      · intro j hj
        have hz : ((k : Int) > 0) ↔ k ≠ 0 := by omega
        simp only [gtO_int, ofO_some, Rs.bind_nx, ixD_cell hk hj]
        unfold cellB
        have first : ∀ (g : Out Unit Unit), (((if decide ((0 : Int) < (j : Int)) = true then ((intD (· - ·) (.int (j : Int)) (.int 1)).bind fun x21 => ixD (iD T[k]) x21).bind fun x26 => ofO (geO x26 (.int (cell T k j))) else Rs.nx false).to fun c => if c = true then (Out.rt (.bl false) : Out Unit Unit) else .nx ()).bind fun _ => g) =
            if (decide (j = 0) || decide (cell T k (j - 1) < cell T k j)) = true then g else .rt (.bl false) := fun g => by
          by_cases c : j = 0
          · subst c; simp
          · have e1 : (0 : Int) < (j : Int) := by omega
            have e2 : (j : Int) - 1 = ((j - 1 : Nat) : Int) := by omega
            simp only [e1, decide_true, if_true, intD_int, Rs.bind_nx, e2, ixD_cell hk (show j - 1 < T[k].length by omega), geO_int, ofO_some, Rs.to_nx, c, decide_false, Bool.false_or]
            by_cases c2 : cell T k (j - 1) < cell T k j
            · have : ¬ cell T k j ≤ cell T k (j - 1) := by omega
              simp [c2, this]
            · have : cell T k j ≤ cell T k (j - 1) := by omega
              simp [c2, this]
        rw [first]
        by_cases c : k = 0
        · subst c
          simp
        · have e1 : (0 : Int) < (k : Int) := by omega
          have e2 : (k : Int) - 1 = ((k - 1 : Nat) : Int) := by omega
          have hk1 : k - 1 < T.length := by omega
          have hle := (hsh k hk).2.resolve_left c
          rw [rowL_at hk, rowL_at hk1] at hle
          simp only [e1, decide_true, if_true, intD_int, Rs.bind_nx, e2, ixD_rD hk1, ixD_cell hk1 (show j < T[k - 1].length by omega), geO_int, ofO_some, Rs.to_nx, c, decide_false, Bool.false_or]
          cases hA : (decide (j = 0) || decide (cell T k (j - 1) < cell T k j)) with
          | false => simp
          | true =>
            by_cases c2 : cell T (k - 1) j < cell T k j
            · have : ¬ cell T k j ≤ cell T (k - 1) j := by omega
              simp [c2, this]
            · have : cell T k j ≤ cell T (k - 1) j := by omega
              simp [c2, this]
end Sw

/- part PlD -/
/-! A row of places: its two stairs are the row's exchanged. -/
namespace Sw
open PySem L2
abbrev Less (T : List (List Int)) (N : Int) : Prop := ∀ r ∈ T, ∀ y ∈ r, y < N
theorem addAt_nil (N : Int) : addAt [] 0 N = [[N]] := rfl
theorem addAt_zero (r : List Int) (T : List (List Int)) (N : Int) : addAt (r :: T) 0 N = (r ++ [N]) :: T := by
  unfold addAt
  rw [if_neg (by simp)]
  simp
theorem addAt_succ (r : List Int) (T : List (List Int)) (i : Nat) (N : Int) : addAt (r :: T) (i + 1) N = r :: addAt T i N := by
  unfold addAt
  by_cases c : i = T.length
  · rw [if_pos c, if_pos (by simp [c])]
    rfl
  · rw [if_neg c, if_neg (by simpa using c)]
    simp
theorem insN : ∀ (r : List Int) (x N : Int), x < N → ins (r ++ [N]) x = match ins r x with
    | (r', some b) => (r' ++ [N], some b)
    | (r', none) => (r', some N)
  | [], x, N, h => by simp [ins, h]
  | c :: r, x, N, h => by
    by_cases hc : x < c
    · rw [List.cons_append, ins_lt hc, ins_lt hc]
      rfl
    · rw [List.cons_append, ins_ge hc, ins_ge hc, insN r x N h]
      cases e : ins r x with
      | mk r' b => cases b <;> rfl
theorem layIn_max : ∀ {T : List (List Int)} {N : Int}, Less T N → layIn T N = (addAt T 0 N, 0)
  | [], N, _ => rfl
  | r :: T, N, h => by
    rw [layIn_cons, ins_end r N (fun z hz => by have := h r (.head _) z hz; omega), addAt_zero]
theorem lay_addAt : ∀ {T : List (List Int)} {i : Nat} {x N : Int}, Less T N → x < N → i ≤ T.length →
    layIn (addAt T i N) x = (addAt (layIn T x).1 (if (layIn T x).2 = i then i + 1 else i) N, if (layIn T x).2 = i then i + 1 else (layIn T x).2)
  | [], i, x, N, _, h, hi => by
    have : i = 0 := by simpa using hi
    subst this
    rw [addAt_nil, layIn_cons, ins_lt h]
    simp [layIn, addAt]
  | r :: T, 0, x, N, hl, h, _ => by
    rw [addAt_zero, layIn_cons, layIn_cons, insN r x N h]
    cases e : ins r x with
    | mk r' b =>
      cases b with
      | some b =>
        simp only
        rw [if_neg (by omega), addAt_zero, if_neg (by omega)]
      | none =>
        simp only
        rw [layIn_max (fun q hq => hl q (.tail _ hq))]
        simp only [if_true]
        rw [addAt_succ]
  | r :: T, i + 1, x, N, hl, h, hi => by
    rw [addAt_succ, layIn_cons, layIn_cons]
    cases e : ins r x with
    | mk r' b =>
      cases b with
      | some b =>
        have hb : b < N := hl r (.head _) b (ins_some e).2
        have ih := lay_addAt (T := T) (i := i) (x := b) (fun q hq => hl q (.tail _ hq)) hb (by simpa using hi)
        simp only
        rw [ih]
        by_cases c : (layIn T b).2 = i
        · rw [if_pos c, if_pos c, if_pos (by omega), if_pos (by omega), addAt_succ]
        · rw [if_neg c, if_neg c, if_neg (by omega), if_neg (by omega), addAt_succ]
      | none =>
        simp only
        rw [if_neg (by omega), if_neg (by omega), addAt_succ]
theorem addAt_len {T : List (List Int)} {i : Nat} {N : Int} : (addAt T i N).length = if i = T.length then T.length + 1 else T.length := by
  unfold addAt
  split <;> simp
theorem addAt_mem {T : List (List Int)} {i : Nat} {N : Int} {r : List Int} (h : r ∈ addAt T i N) : ∀ y ∈ r, y = N ∨ ∃ q ∈ T, y ∈ q := by
  intro y hy
  unfold addAt at h
  split at h
  · rcases List.mem_append.mp h with e | e
    · exact .inr ⟨r, e, hy⟩
    · simp at e
      rw [e] at hy
      exact .inl (by simpa using hy)
  · rcases List.mem_or_eq_of_mem_set h with e | e
    · exact .inr ⟨r, e, hy⟩
    · rw [e] at hy
      rcases List.mem_append.mp hy with m | m
      · rw [List.getD] at m
        cases c : T[i]? with
        | none => rw [c] at m; simp at m
        | some q =>
          rw [c] at m
          exact .inr ⟨q, List.mem_of_getElem? c, m⟩
      · exact .inl (by simpa using m)
theorem Less.add {T : List (List Int)} {i : Nat} {N M : Int} (h : Less T M) (hN : N < M) : Less (addAt T i N) M := fun r hr y hy => by
  rcases addAt_mem hr y hy with e | ⟨q, hq, m⟩
  · omega
  · exact h q hq y m
/-! ### rows by the numbers in order -/
/-- number, row, place -/
abbrev Tr := Int × Nat × Int
def walk : Nat → List Tr → List Tr × Nat
  | i, [] => ([], i)
  | i, (v, k, p) :: L => if k = i then ((v, i + 1, p) :: (walk (i + 1) L).1, (walk (i + 1) L).2) else ((v, k, p) :: (walk i L).1, (walk i L).2)
def Bd : List (List Int) → List Tr → List (List Int)
  | T, [] => T
  | T, (v, k, _) :: L => Bd (addAt T k v) L
/-- the rows are there -/
def Vd : Nat → List Tr → Prop
  | _, [] => True
  | n, (_, k, _) :: L => k ≤ n ∧ Vd (if k = n then n + 1 else n) L
theorem Bd_append : ∀ (L M : List Tr) (T : List (List Int)), Bd T (L ++ M) = Bd (Bd T L) M
  | [], M, T => rfl
  | (v, k, p) :: L, M, T => Bd_append L M _
theorem Bd_less : ∀ (L : List Tr) {T : List (List Int)} {N : Int}, Less T N → (∀ t ∈ L, t.1 < N) → Less (Bd T L) N
  | [], T, N, h, _ => h
  | (v, k, p) :: L, T, N, h, hL => Bd_less L (h.add (hL (v, k, p) (.head _))) fun t ht => hL t (.tail _ ht)
theorem walk_lay : ∀ (L : List Tr) {T T1 : List (List Int)} {x : Int} {i : Nat}, layIn T x = (T1, i) → (∀ t ∈ L, Less T t.1) → L.Pairwise (fun a b => a.1 < b.1) → (∀ t ∈ L, x < t.1) → Vd T.length L →
    layIn (Bd T L) x = (Bd T1 (walk i L).1, (walk i L).2)
  | [], T, T1, x, i, h, _, _, _, _ => h
  | (v, k, p) :: L, T, T1, x, i, h, hl, hp, hx, hv => by
    have hp' := List.pairwise_cons.mp hp
    have hvx := hx (v, k, p) (.head _)
    have hTv := hl (v, k, p) (.head _)
    have h1 := lay_addAt (i := k) hTv hvx hv.1
    rw [h] at h1
    simp only at h1
    have hs : ∀ t ∈ L, Less (addAt T k v) t.1 := fun t ht => (hl t (.tail _ ht)).add (hp'.1 t ht)
    have hvd : Vd (addAt T k v).length L := by
      rw [addAt_len]
      exact hv.2
    have ih := walk_lay L h1 hs hp'.2 (fun t ht => hx t (.tail _ ht)) hvd
    show layIn (Bd (addAt T k v) L) x = _
    rw [ih, walk]
    by_cases c : k = i
    · subst c
      simp only [if_true]
      rfl
    · have c2 : ¬ i = k := fun e => c e.symm
      simp only [if_neg c, if_neg c2]
      rfl
/-! ### the row of places -/
/-- a word laid: the rows, and which row grew each time -/
def layG : List (List Int) → List Int → List (List Int) × List Nat
  | T, [] => (T, [])
  | T, x :: w => ((layG (layIn T x).1 w).1, (layIn T x).2 :: (layG (layIn T x).1 w).2)
theorem layG_append : ∀ (u v : List Int) (T : List (List Int)), layG T (u ++ v) = ((layG (layG T u).1 v).1, (layG T u).2 ++ (layG (layG T u).1 v).2)
  | [], v, T => rfl
  | x :: u, v, T => by
    rw [List.cons_append, layG, layG_append u v]
    rfl
theorem layIn_less {T : List (List Int)} {x N : Int} (h : Less T N) (hx : x < N) : Less (layIn T x).1 N := by
  induction T generalizing x with
  | nil =>
    intro r hr y hy
    simp [layIn] at hr
    rw [hr] at hy
    simp at hy
    omega
  | cons r T ih =>
    rw [layIn_cons]
    cases e : ins r x with
    | mk r' b =>
      have hm : ∀ y ∈ r', y < N := fun y hy => by
        rcases ins_mem (r := r) (x := x) (y := y) (by rw [e]; exact hy) with m | m
        · omega
        · exact h r (.head _) y m
      cases b with
      | some b =>
        have hb := h r (.head _) b (ins_some e).2
        intro q hq y hy
        rcases List.mem_cons.mp hq with m | m
        · rw [m] at hy; exact hm y hy
        · exact ih (fun q hq => h q (.tail _ hq)) hb q m y hy
      | none =>
        intro q hq y hy
        rcases List.mem_cons.mp hq with m | m
        · rw [m] at hy; exact hm y hy
        · exact h q (.tail _ m) y hy
theorem layG_less : ∀ (w : List Int) {T : List (List Int)} {N : Int}, Less T N → (∀ x ∈ w, x < N) → Less (layG T w).1 N
  | [], T, N, h, _ => h
  | x :: w, T, N, h, hw => layG_less w (layIn_less h (hw x (.head _))) fun y hy => hw y (.tail _ hy)
theorem walk_layG : ∀ (L : List Tr) {T : List (List Int)} {i : Nat} {N : Int}, Less T N → (∀ t ∈ L, t.2.2 < N) → i ≤ T.length → (layG T (L.map (·.2.2))).2 = L.map (·.2.1) →
    layG (addAt T i N) (L.map (·.2.2)) = (addAt (layG T (L.map (·.2.2))).1 (walk i L).2 N, (walk i L).1.map (·.2.1))
  | [], T, i, N, _, _, _, _ => rfl
  | (v, k, p) :: L, T, i, N, hl, hp, hi, hk => by
    have hpN := hp (v, k, p) (.head _)
    have h1 := lay_addAt hl hpN hi
    simp only [List.map_cons, layG, List.cons.injEq] at hk ⊢
    obtain ⟨hk1, hk2⟩ := hk
    have ha := layIn_at T p
    have hlen := layIn_len T p
    rw [h1, hk1]
    simp only
    have hi' : (if k = i then i + 1 else i) ≤ (layIn T p).1.length := by
      rw [hlen]
      split <;> split <;> omega
    have ih := walk_layG L (T := (layIn T p).1) (i := if k = i then i + 1 else i) (layIn_less hl hpN) (fun t ht => hp t (.tail _ ht)) hi' hk2
    rw [ih, walk]
    by_cases c : k = i
    · simp only [if_pos c]
      simp
    · simp only [if_neg c]
      simp
theorem layG_vd : ∀ (L : List Tr) {T : List (List Int)}, (layG T (L.map (·.2.2))).2 = L.map (·.2.1) → Vd T.length L
  | [], T, _ => True.intro
  | (v, k, p) :: L, T, h => by
    simp only [List.map_cons, layG, List.cons.injEq] at h
    have ha := layIn_at T p
    have hlen := layIn_len T p
    refine ⟨by omega, ?_⟩
    have := layG_vd L h.2
    rw [hlen, h.1] at this
    exact this
theorem walk_fst : ∀ (L : List Tr) (i : Nat), (walk i L).1.map (fun t => (t.1, t.2.2)) = L.map fun t => (t.1, t.2.2)
  | [], i => rfl
  | (v, k, p) :: L, i => by
    rw [walk]
    split
    · simp [walk_fst L]
    · simp [walk_fst L]
end Sw

/- part PlE -/
namespace Sw
open PySem L2
/-- the row that grew is told to the second stairs -/
def layPQ : List (List Int) × List (List Int) → List (Int × Int) → List (List Int) × List (List Int)
  | s, [] => s
  | s, (x, p) :: w => layPQ ((layIn s.1 x).1, addAt s.2 (layIn s.1 x).2 p) w
/-- a number more, with its place -/
def put (x p : Int) (L : List Tr) : List Tr := (L.filter fun t => decide (t.1 < x)) ++ (x, 0, p) :: (walk 0 (L.filter fun t => decide (x < t.1))).1
structure Both (N : Int) (s : List (List Int) × List (List Int)) (L : List Tr) : Prop where
  p : s.1 = Bd [] L
  q : layG [] (L.map (·.2.2)) = (s.2, L.map (·.2.1))
  up : L.Pairwise (fun a b => a.1 < b.1)
  less : ∀ t ∈ L, t.2.2 < N
theorem split_at : ∀ (L : List Tr) (x : Int), L.Pairwise (fun a b => a.1 < b.1) → (∀ t ∈ L, t.1 ≠ x) → L = (L.filter fun t => decide (t.1 < x)) ++ (L.filter fun t => decide (x < t.1))
  | [], x, _, _ => rfl
  | t :: L, x, hp, hx => by
    have hp' := List.pairwise_cons.mp hp
    have ih := split_at L x hp'.2 (fun u hu => hx u (.tail _ hu))
    have hne := hx t (.head _)
    by_cases c : t.1 < x
    · rw [List.filter_cons, if_pos (by simpa using c), List.filter_cons, if_neg (by simp; omega), List.cons_append, ← ih]
    · have h1 : (t :: L).filter (fun t => decide (t.1 < x)) = [] := by
        rw [List.filter_eq_nil_iff]
        intro u hu
        rcases List.mem_cons.mp hu with e | e
        · rw [e]; simpa using c
        · have := hp'.1 u e
          simp
          omega
      have h2 : (t :: L).filter (fun t => decide (x < t.1)) = t :: L := by
        rw [List.filter_eq_self]
        intro u hu
        rcases List.mem_cons.mp hu with e | e
        · rw [e]; simp; omega
        · have := hp'.1 u e
          simp
          omega
      rw [h1, h2]
      rfl
theorem walk_p : ∀ (L : List Tr) (i : Nat), (walk i L).1.map (·.2.2) = L.map (·.2.2)
  | [], i => rfl
  | (v, k, p) :: L, i => by
    rw [walk]
    split <;> simp [walk_p L]
theorem walk_v : ∀ (L : List Tr) (i : Nat), (walk i L).1.map (·.1) = L.map (·.1)
  | [], i => rfl
  | (v, k, p) :: L, i => by
    rw [walk]
    split <;> simp [walk_v L]
theorem less_nil (N : Int) : Less [] N := fun r hr => by cases hr
theorem Both.step {N x : Int} {s : List (List Int) × List (List Int)} {L : List Tr} (h : Both N s L) (hx : ∀ t ∈ L, t.1 ≠ x) :
    Both (N + 1) ((layIn s.1 x).1, addAt s.2 (layIn s.1 x).2 N) (put x N L) := by
  have hs := split_at L x h.up hx
  have hq := h.q
  have hup := h.up
  have hp := h.p
  have hless := h.less
  unfold put
  have hA : ∀ t ∈ L.filter (fun t => decide (t.1 < x)), t.1 < x := fun t ht => by simpa using (List.mem_filter.mp ht).2
  have hB : ∀ t ∈ L.filter (fun t => decide (x < t.1)), x < t.1 := fun t ht => by simpa using (List.mem_filter.mp ht).2
  have hAl : ∀ t ∈ L.filter (fun t => decide (t.1 < x)), t.2.2 < N := fun t ht => hless t (List.mem_filter.mp ht).1
  have hBl : ∀ t ∈ L.filter (fun t => decide (x < t.1)), t.2.2 < N := fun t ht => hless t (List.mem_filter.mp ht).1
  generalize L.filter (fun t => decide (t.1 < x)) = A at *
  generalize L.filter (fun t => decide (x < t.1)) = B at *
  subst hs
  rw [List.map_append, List.map_append, layG_append] at hq
  obtain ⟨hq1, hq2⟩ := Prod.mk.inj hq
  have hAlen : (layG [] (A.map (·.2.2))).2.length = A.length := by
    have : ∀ (w : List Int) (T : List (List Int)), (layG T w).2.length = w.length := by
      intro w
      induction w with
      | nil => intro T; rfl
      | cons x w ih => intro T; simp [layG, ih]
    rw [this, List.length_map]
  obtain ⟨k1, k2⟩ := List.append_inj hq2 (by rw [hAlen, List.length_map])
  have hTA : Less (Bd [] A) x := Bd_less A (less_nil x) hA
  have hup' := List.pairwise_append.mp hup
  have hlenA : ∀ (M : List Tr) (T T' : List (List Int)), T.length = T'.length → (layG T' (M.map (·.2.2))).2 = M.map (·.2.1) → (Bd T M).length = (layG T' (M.map (·.2.2))).1.length := by
    intro M
    induction M with
    | nil => intro T T' e _; exact e
    | cons t M ih =>
      intro T T' e hk
      obtain ⟨v, k, p⟩ := t
      simp only [List.map_cons, layG, List.cons.injEq] at hk
      have hl2 := layIn_len T' p
      exact ih (addAt T k v) (layIn T' p).1 (by rw [addAt_len, hl2, hk.1, e]) hk.2
  have hvB : Vd (Bd [] A).length B := by
    rw [hlenA A [] [] rfl k1]
    exact layG_vd B k2
  have hBdB : Less (layG [] (A.map (·.2.2))).1 N := layG_less _ (less_nil N) (fun y hy => by
    obtain ⟨t, ht, rfl⟩ := List.mem_map.mp hy
    exact hAl t ht)
  have hlay : layIn s.1 x = (Bd (addAt (Bd [] A) 0 x) (walk 0 B).1, (walk 0 B).2) := by
    rw [hp, Bd_append]
    exact walk_lay B (layIn_max hTA) (fun t ht => by
      have := hB t ht
      exact Bd_less A (less_nil _) (fun u hu => by have := hA u hu; omega)) hup'.2.1 hB hvB
  have hG := walk_layG B hBdB hBl (Nat.zero_le _) k2
  refine ⟨?_, ?_, ?_, ?_⟩
  · rw [hlay, Bd_append]
    rfl
  · rw [hlay]
    simp only
    rw [List.map_append, List.map_append, layG_append, List.map_cons, List.map_cons, layG, layIn_max hBdB, walk_p, hG]
    simp only
    rw [k1, hq1]
  · refine List.pairwise_append.mpr ⟨hup'.1, List.pairwise_cons.mpr ⟨fun t ht => ?_, ?_⟩, fun a ha b hb => ?_⟩
    · have : t.1 ∈ (walk 0 B).1.map (·.1) := List.mem_map.mpr ⟨t, ht, rfl⟩
      rw [walk_v] at this
      obtain ⟨u, hu, e⟩ := List.mem_map.mp this
      have := hB u hu
      omega
    · have h1 : (B.map (·.1)).Pairwise (· < ·) := List.pairwise_map.mpr hup'.2.1
      rw [← walk_v B 0] at h1
      exact List.pairwise_map.mp h1
    · have := hA a ha
      rcases List.mem_cons.mp hb with e | e
      · rw [e]; exact this
      · have : b.1 ∈ (walk 0 B).1.map (·.1) := List.mem_map.mpr ⟨b, e, rfl⟩
        rw [walk_v] at this
        obtain ⟨u, hu, e⟩ := List.mem_map.mp this
        have := hB u hu
        omega
  · intro t ht
    rcases List.mem_append.mp ht with e | e
    · have := hAl t e; omega
    · rcases List.mem_cons.mp e with e | e
      · rw [e]; show N < N + 1; omega
      · have : t.2.2 ∈ (walk 0 B).1.map (·.2.2) := List.mem_map.mpr ⟨t, e, rfl⟩
        rw [walk_p] at this
        obtain ⟨u, hu, e⟩ := List.mem_map.mp this
        have := hBl u hu
        omega
end Sw

/- part PlK -/
/-! Two stairs of one shape and the row between them. -/
namespace Sw
open PySem L2
/-- the numbers 1 to n -/
def onesN (n : Nat) : List Int := (List.range n).map fun i : Nat => (i : Int) + 1
theorem mem_onesN {n : Nat} {y : Int} : y ∈ onesN n ↔ 1 ≤ y ∧ y ≤ n := by
  unfold onesN
  rw [List.mem_map]
  constructor
  · rintro ⟨i, hi, rfl⟩
    have := List.mem_range.mp hi
    omega
  · intro h
    exact ⟨(y - 1).toNat, List.mem_range.mpr (by omega), by omega⟩
theorem onesN_succ (n : Nat) : onesN (n + 1) = onesN n ++ [(n : Int) + 1] := by
  unfold onesN
  rw [List.range_succ, List.map_append]
  rfl
theorem onesN_len (n : Nat) : (onesN n).length = n := by simp [onesN]
theorem onesN_sorted (n : Nat) : (onesN n).Pairwise (· ≤ ·) := by
  unfold onesN
  rw [List.pairwise_map]
  exact (List.pairwise_lt_range (n := n)).imp fun h => by omega
theorem onesN_nodup (n : Nat) : (onesN n).Nodup := by
  unfold onesN List.Nodup
  rw [List.pairwise_map]
  have hr : (List.range n).Nodup := List.nodup_range
  exact List.Pairwise.imp (fun h => by omega) hr
/-! ### where a number stands -/
def rowOf (Q : List (List Int)) (y : Int) : Nat := Q.findIdx fun r => decide (y ∈ r)
theorem mem_rdg {T : List (List Int)} {y : Int} : y ∈ rdg T ↔ ∃ i, y ∈ T.getD i [] := by
  induction T with
  | nil => simp [rdg]
  | cons r T ih =>
    rw [rdg_cons, List.mem_append, ih]
    constructor
    · rintro (⟨i, h⟩ | h)
      · exact ⟨i + 1, by simpa using h⟩
      · exact ⟨0, by simpa using h⟩
    · rintro ⟨i, h⟩
      cases i with
      | zero => exact .inr (by simpa using h)
      | succ i => exact .inl ⟨i, by simpa using h⟩
theorem mem_getD_lt {T : List (List Int)} {y : Int} {i : Nat} (h : y ∈ T.getD i []) : i < T.length := by
  by_cases c : i < T.length
  · exact c
  · rw [List.getD_eq_getElem?_getD, List.getElem?_eq_none (by omega)] at h
    simp at h
theorem row_unique : ∀ {T : List (List Int)} {y : Int} {i j : Nat}, (rdg T).Nodup → y ∈ T.getD i [] → y ∈ T.getD j [] → i = j
  | [], y, i, j, _, h, _ => by simp at h
  | r :: T, y, 0, 0, _, _, _ => rfl
  | r :: T, y, 0, j + 1, hn, h1, h2 => absurd rfl ((List.nodup_append.mp hn).2.2 y (mem_rdg.mpr ⟨j, by simpa using h2⟩) y (by simpa using h1))
  | r :: T, y, i + 1, 0, hn, h1, h2 => absurd rfl ((List.nodup_append.mp hn).2.2 y (mem_rdg.mpr ⟨i, by simpa using h1⟩) y (by simpa using h2))
  | r :: T, y, i + 1, j + 1, hn, h1, h2 => by
    have := row_unique (T := T) (i := i) (j := j) (List.nodup_append.mp hn).1 (by simpa using h1) (by simpa using h2)
    omega
theorem rowOf_eq {Q : List (List Int)} {y : Int} {i : Nat} (h : y ∈ Q.getD i []) (hu : ∀ j, j < i → y ∉ Q.getD j []) : rowOf Q y = i := by
  have hi := mem_getD_lt h
  refine (List.findIdx_eq hi).mpr ⟨?_, fun j hj => ?_⟩
  · rw [rows_getD hi] at h
    simpa using h
  · have := hu j hj
    rw [rows_getD (by omega)] at this
    simpa using this
theorem rowOf_nodup {Q : List (List Int)} {y : Int} {i : Nat} (hn : (rdg Q).Nodup) (h : y ∈ Q.getD i []) : rowOf Q y = i :=
  rowOf_eq h fun j hj hm => by have := row_unique hn h hm; omega
theorem rowOf_mem {Q : List (List Int)} {y : Int} (hn : (rdg Q).Nodup) (h : y ∈ rdg Q) : y ∈ Q.getD (rowOf Q y) [] := by
  obtain ⟨i, hi⟩ := mem_rdg.mp h
  rw [rowOf_nodup hn hi]
  exact hi
/-! ### one number more at a row's end -/
theorem addAt_getD {T : List (List Int)} {j : Nat} {N : Int} (hj : j ≤ T.length) (i : Nat) : (addAt T j N).getD i [] = if i = j then T.getD j [] ++ [N] else T.getD i [] := by
  unfold addAt
  by_cases c : j = T.length
  · rw [if_pos c]
    subst c
    by_cases c2 : i = T.length
    · subst c2; simp [List.getD_eq_getElem?_getD]
    · rw [if_neg c2]
      by_cases c3 : i < T.length
      · simp [List.getD_eq_getElem?_getD, List.getElem?_append_left c3]
      · simp only [List.getD_eq_getElem?_getD]
        rw [List.getElem?_eq_none (by simp; omega), List.getElem?_eq_none (by omega)]
  · rw [if_neg c]
    by_cases c2 : i = j
    · subst c2
      rw [if_pos rfl]
      simp [List.getD_eq_getElem?_getD, show i < T.length by omega]
    · rw [if_neg c2]
      simp only [List.getD_eq_getElem?_getD]
      rw [List.getElem?_set_ne (by omega)]
theorem rdg_addAt : ∀ {T : List (List Int)} {j : Nat} {N : Int}, j ≤ T.length → (rdg (addAt T j N)).Perm (N :: rdg T)
  | [], 0, N, _ => by simp [addAt, rdg]
  | r :: T, 0, N, _ => by
    rw [addAt_zero, rdg_cons, rdg_cons]
    rw [← List.append_assoc]
    exact List.perm_append_singleton _ _
  | r :: T, j + 1, N, h => by
    rw [addAt_succ, rdg_cons, rdg_cons]
    exact (rdg_addAt (by simpa using h)).append_right r
theorem stab_addAt : ∀ {T : List (List Int)} {j : Nat} {N : Int}, STab T → Less T N → j ≤ T.length → (0 < j → rowL T j < rowL T (j - 1)) → STab (addAt T j N)
  | [], 0, N, _, _, _, _ => ⟨by simp, by simp [Ris], by simp, True.intro⟩
  | r :: T, 0, N, h, hl, _, _ => by
    rw [addAt_zero]
    refine ⟨by simp, ?_, h.2.2.1.snoc N, h.2.2.2⟩
    refine List.pairwise_append.mpr ⟨h.2.1, by simp, fun a ha b hb => ?_⟩
    simp at hb
    subst hb
    exact hl r (.head _) a ha
  | r :: T, j + 1, N, h, hl, hj, hc => by
    rw [addAt_succ]
    have hl' : Less T N := fun q hq => hl q (.tail _ hq)
    have hc0 := hc (by omega)
    have r0 : rowL (r :: T) 0 = r.length := rfl
    have rs : ∀ k, rowL (r :: T) (k + 1) = rowL T k := fun k => by simp [rowL]
    rw [rs] at hc0
    refine ⟨h.1, h.2.1, ?_, stab_addAt h.2.2.2 hl' (by simpa using hj) (fun h0 => ?_)⟩
    · cases j with
      | zero =>
        have hc0 : rowL T 0 < r.length := hc0
        have hdom := dom_iff.mp h.2.2.1
        have : hd1 (addAt T 0 N) = hd1 T ++ [N] := by
          cases T with
          | nil => rfl
          | cons s T => rw [addAt_zero]; rfl
        rw [this]
        have hd0 : (hd1 T).length = rowL T 0 := by cases T <;> rfl
        refine dom_iff.mpr ⟨by simp; omega, fun k h1 h2 => ?_⟩
        rw [List.getElem_append]
        split
        · rename_i h3
          exact hdom.2 k h3 h2
        · rw [List.getElem_singleton]
          exact hl r (.head _) _ (List.getElem_mem h2)
      | succ j =>
        cases T with
        | nil => simp at hj
        | cons s T =>
          rw [addAt_succ]
          exact h.2.2.1
    · obtain ⟨j, rfl⟩ : ∃ i, j = i + 1 := ⟨j - 1, by omega⟩
      have : j + 1 + 1 - 1 = j + 1 := by omega
      rw [this, rs] at hc0
      exact hc0
theorem less_of {T : List (List Int)} {n : Nat} (h : (rdg T).Perm (onesN n)) : Less T ((n : Int) + 1) := fun r hr y hy => by
  have := mem_onesN.mp (h.mem_iff.mp ((rdg_mem hr).subset hy))
  omega
theorem layIn_step {T : List (List Int)} {x : Int} (h : STab T) (hn : (rdg T).Nodup) (hx : x ∉ rdg T) : STab (layIn T x).1 ∧ (rdg (layIn T x).1).Nodup ∧ (rdg (layIn T x).1).Perm (x :: rdg T) := by
  have hp : (rdg (layIn T x).1).Perm (x :: rdg T) := ((kn_lay T x (Tab.ups h.tab)).perm.symm).trans (List.perm_append_singleton _ _)
  have hnd : (rdg (layIn T x).1).Nodup := hp.nodup_iff.mpr (List.nodup_cons.mpr ⟨hx, hn⟩)
  refine ⟨?_, hnd, hp⟩
  have ht := tab_lay x h.tab
  refine stab_of ht fun r hr => ?_
  have hs := rdg_mem hr
  have hu := Tab.ups ht r hr
  have hrn : r.Nodup := hnd.sublist hs
  exact List.Pairwise.imp₂ (R := (· ≤ ·)) (S := (· ≠ ·)) (fun a b h1 h2 => by omega) hu hrn
theorem layIn_corner {T : List (List Int)} {x : Int} (h : STab T) (hn : (rdg T).Nodup) (hx : x ∉ rdg T) : Corner (layIn T x).1 (layIn T x).2 := by
  unfold Corner
  rw [layIn_lens, layIn_lens, if_pos rfl, if_neg (by omega)]
  have := STab.le (layIn T x).2 h
  omega
/-- what a row's two stairs are -/
structure Pair (n : Nat) (P Q : List (List Int)) : Prop where
  p : STab P
  pn : (rdg P).Nodup
  q : STab Q
  qp : (rdg Q).Perm (onesN n)
  len : ∀ i, rowL P i = rowL Q i
theorem Pair.qn {n : Nat} {P Q : List (List Int)} (h : Pair n P Q) : (rdg Q).Nodup := h.qp.nodup_iff.mpr (onesN_nodup n)
theorem rdg_lens : ∀ {P Q : List (List Int)}, (∀ i, rowL P i = rowL Q i) → (∀ r ∈ P, r ≠ []) → (∀ r ∈ Q, r ≠ []) → P.length = Q.length ∧ (rdg P).length = (rdg Q).length
  | [], [], _, _, _ => ⟨rfl, rfl⟩
  | [], r :: Q, h, _, hq => by
    have h0 : 0 = r.length := h 0
    have := len_pos (hq r (.head _))
    omega
  | r :: P, [], h, hp, _ => by
    have h0 : r.length = 0 := h 0
    have := len_pos (hp r (.head _))
    omega
  | r :: P, s :: Q, h, hp, hq => by
    have := rdg_lens (P := P) (Q := Q) (fun i => by simpa [rowL] using h (i + 1)) (fun r hr => hp r (.tail _ hr)) (fun r hr => hq r (.tail _ hr))
    have h0 := h 0
    simp [rowL] at h0
    simp [rdg_cons, this.1, this.2, h0]
theorem Pair.lens {n : Nat} {P Q : List (List Int)} (h : Pair n P Q) : P.length = Q.length ∧ (rdg P).length = n := by
  obtain ⟨h1, h2⟩ := rdg_lens h.len (STab.ne h.p) (STab.ne h.q)
  exact ⟨h1, by rw [h2, h.qp.length_eq, onesN_len]⟩
theorem laid_pair (row : List Int) : row.Nodup → Pair row.length (laidP row).1 (laidP row).2 ∧ (rdg (laidP row).1).Perm row := by
  refine snoc_ind (P := fun row => row.Nodup → Pair row.length (laidP row).1 (laidP row).2 ∧ (rdg (laidP row).1).Perm row) ?_ ?_ row
  · intro _
    exact ⟨⟨True.intro, .nil, True.intro, .refl _, fun i => rfl⟩, .refl _⟩
  · intro l x ih hn
    have hn' := List.nodup_append.mp hn
    obtain ⟨hp, hpm⟩ := ih hn'.1
    have hx : x ∉ rdg (laidP l).1 := fun hm => hn'.2.2 x (hpm.mem_iff.mp hm) x (.head _) rfl
    obtain ⟨s1, s2, s3⟩ := layIn_step hp.p hp.pn hx
    have hll := hp.lens.1
    have hat := layIn_at (laidP l).1 x
    rw [laidP_snoc, List.length_append, List.length_singleton]
    refine ⟨⟨s1, s2, ?_, ?_, fun i => ?_⟩, ?_⟩
    · refine stab_addAt hp.q (less_of hp.qp) (by omega) fun h0 => ?_
      have h1 := STab.le ((layIn (laidP l).1 x).2 - 1) s1
      rw [show (layIn (laidP l).1 x).2 - 1 + 1 = (layIn (laidP l).1 x).2 by omega, layIn_lens, layIn_lens, if_pos rfl, if_neg (by omega), hp.len, hp.len] at h1
      omega
    · refine (rdg_addAt (by omega)).trans ?_
      rw [onesN_succ]
      exact (List.Perm.cons _ hp.qp).trans (List.perm_append_singleton _ _).symm
    · show rowL (layIn (laidP l).1 x).1 i = ((addAt (laidP l).2 (layIn (laidP l).1 x).2 ((l.length : Int) + 1)).getD i []).length
      rw [layIn_lens, addAt_getD (by omega), hp.len]
      by_cases c : i = (layIn (laidP l).1 x).2
      · rw [if_pos c, if_pos c, List.length_append, c]; rfl
      · rw [if_neg c, if_neg c]; rfl
    · exact s3.trans ((List.Perm.cons x hpm).trans (List.perm_append_singleton x l).symm)
/-! ### the row taken out -/
def takenS (Q : List (List Int)) : Nat → List (List Int) → List Int
  | 0, _ => []
  | k + 1, P => (takeO P (rowOf Q ((k : Int) + 1))).2 :: takenS Q k (takeO P (rowOf Q ((k : Int) + 1))).1
theorem takenS_congr {Q Q' : List (List Int)} : ∀ {n : Nat} {P : List (List Int)}, (∀ k : Nat, k < n → rowOf Q ((k : Int) + 1) = rowOf Q' ((k : Int) + 1)) → takenS Q n P = takenS Q' n P
  | 0, P, _ => rfl
  | n + 1, P, h => by
    rw [takenS, takenS, h n (by omega), takenS_congr fun k hk => h k (by omega)]
theorem takenS_len {Q : List (List Int)} : ∀ (n : Nat) (P : List (List Int)), (takenS Q n P).length = n
  | 0, P => rfl
  | n + 1, P => by simp [takenS, takenS_len n]
/-- out of a row's two stairs comes the row -/
theorem taken_laid (row : List Int) : row.Nodup → takenS (laidP row).2 row.length (laidP row).1 = row.reverse := by
  refine snoc_ind (P := fun row => row.Nodup → takenS (laidP row).2 row.length (laidP row).1 = row.reverse) (fun _ => rfl) ?_ row
  intro l x ih hn
  have hn' := List.nodup_append.mp hn
  obtain ⟨hp, hpm⟩ := laid_pair l hn'.1
  obtain ⟨hp2, _⟩ := laid_pair (l ++ [x]) hn
  have hx : x ∉ rdg (laidP l).1 := fun hm => hn'.2.2 x (hpm.mem_iff.mp hm) x (.head _) rfl
  have hat := layIn_at (laidP l).1 x
  have hll := hp.lens.1
  have hq2 := hp2.qn
  rw [laidP_snoc] at hq2 ⊢
  rw [List.length_append, List.length_singleton, takenS]
  have hr : rowOf (addAt (laidP l).2 (layIn (laidP l).1 x).2 ((l.length : Int) + 1)) ((l.length : Int) + 1) = (layIn (laidP l).1 x).2 := by
    refine rowOf_nodup hq2 ?_
    rw [addAt_getD (by omega), if_pos rfl]
    simp
  simp only [hr, takeO_lay x hp.p hp.pn hx]
  rw [takenS_congr (Q' := (laidP l).2), ih hn'.1, List.reverse_append]
  · rfl
  · intro k hk
    have hm : ((k : Int) + 1) ∈ rdg (laidP l).2 := hp.qp.mem_iff.mpr (mem_onesN.mpr ⟨by omega, by omega⟩)
    obtain ⟨i, hi⟩ := mem_rdg.mp hm
    rw [rowOf_nodup hp.qn hi]
    refine rowOf_nodup hq2 ?_
    rw [addAt_getD (by omega)]
    split
    · rename_i e
      subst e
      exact List.mem_append_left _ hi
    · exact hi
/-! ### each two stairs have a row -/
theorem pl_mem {r : List Int} {k : Int} (hs : Ris r) (h : k ∈ r) : ∃ p, ∃ hp : p < r.length, r[p] = k ∧ pl k r = p + 1 ∧ pl (k - 1) r = p := by
  obtain ⟨p, hp, e⟩ := List.getElem_of_mem h
  refine ⟨p, hp, e, pl_eq (by omega) (fun i hi hip => ?_) (fun hh => ?_), pl_eq (by omega) (fun i hi hip => ?_) (fun hh => ?_)⟩
  · by_cases c : i = p
    · subst c; omega
    · have := hs.get hp (i := i) (by omega)
      omega
  · have := hs.get hh (i := p) (by omega)
    omega
  · have := hs.get hp hip
    omega
  · omega
theorem pl_nmem {r : List Int} {k : Int} (h : k ∉ r) : pl (k - 1) r = pl k r := by
  refine pl_eq (pl_le _ _) (fun i hi hip => ?_) (fun hh => ?_)
  · have h1 := pl_lo hip hi
    have : r[i] ≠ k := fun e => h (e ▸ List.getElem_mem hi)
    omega
  · have := pl_hi hh
    omega
theorem getD_str {T : List (List Int)} (h : STab T) (i : Nat) : Ris (T.getD i []) := by
  by_cases c : i < T.length
  · rw [rows_getD c]; exact STab.str h _ (List.getElem_mem c)
  · rw [List.getD_eq_getElem?_getD, List.getElem?_eq_none (by omega)]
    exact .nil
theorem getD_dom : ∀ {T : List (List Int)} (i : Nat), STab T → Dom (T.getD i []) (T.getD (i + 1) [])
  | [], i, _ => by simp
  | r :: T, 0, h => by
    have := h.2.2.1
    cases T with
    | nil => simp
    | cons s T => simpa using this
  | r :: T, i + 1, h => by
    have := getD_dom i h.2.2.2
    simpa using this
/-- P has the shape of those places of Q that are at most k -/
structure Part (Q : List (List Int)) (k : Nat) (P : List (List Int)) : Prop where
  p : STab P
  pn : (rdg P).Nodup
  len : ∀ i, rowL P i = pl (k : Int) (Q.getD i [])
structure Cnt (n : Nat) (Q : List (List Int)) : Prop where
  q : STab Q
  qp : (rdg Q).Perm (onesN n)
theorem Cnt.qn {n : Nat} {Q : List (List Int)} (h : Cnt n Q) : (rdg Q).Nodup := h.qp.nodup_iff.mpr (onesN_nodup n)
theorem Part.corner {n k : Nat} {P Q : List (List Int)} (hQ : Cnt n Q) (h : Part Q (k + 1) P) (hk : k < n) : Corner P (rowOf Q ((k : Int) + 1)) := by
  have hm := rowOf_mem hQ.qn (hQ.qp.mem_iff.mpr (mem_onesN.mpr ⟨by omega, by omega⟩) : ((k : Int) + 1) ∈ rdg Q)
  generalize rowOf Q ((k : Int) + 1) = i at *
  unfold Corner
  rw [h.len, h.len]
  obtain ⟨p, hp, e, e1, _⟩ := pl_mem (getD_str hQ.q i) hm
  have ek : ((k + 1 : Nat) : Int) = (k : Int) + 1 := by omega
  rw [ek, e1]
  have hd := dom_iff.mp (getD_dom i hQ.q)
  by_cases c : pl ((k : Int) + 1) (Q.getD (i + 1) []) < p + 1
  · exact c
  · have hle := pl_le ((k : Int) + 1) (Q.getD (i + 1) [])
    have h1 := pl_lo (x := (k : Int) + 1) (r := Q.getD (i + 1) []) (i := p) (by omega) (by omega)
    have h2 := hd.2 p (by omega) hp
    omega
theorem Part.next {n k : Nat} {P Q : List (List Int)} (hQ : Cnt n Q) (h : Part Q (k + 1) P) (hk : k < n) : Part Q k (takeO P (rowOf Q ((k : Int) + 1))).1 := by
  have hc := h.corner hQ hk
  have tk := takeO_ok h.p h.pn hc
  have hm := rowOf_mem hQ.qn (hQ.qp.mem_iff.mpr (mem_onesN.mpr ⟨by omega, by omega⟩) : ((k : Int) + 1) ∈ rdg Q)
  refine ⟨tk.tab, (List.nodup_cons.mp (tk.perm.nodup_iff.mp h.pn)).2, fun j => ?_⟩
  rw [tk.len, h.len]
  have ek : ((k + 1 : Nat) : Int) = (k : Int) + 1 := by omega
  rw [ek]
  by_cases c : j = rowOf Q ((k : Int) + 1)
  · rw [if_pos c]
    subst c
    obtain ⟨p, hp, e, e1, e2⟩ := pl_mem (getD_str hQ.q _) hm
    rw [e1]
    rw [show (k : Int) + 1 - 1 = k by omega] at e2
    omega
  · rw [if_neg c]
    have : ((k : Int) + 1) ∉ Q.getD j [] := fun hm2 => c (row_unique hQ.qn hm2 hm)
    have := pl_nmem this
    rw [show (k : Int) + 1 - 1 = k by omega] at this
    omega
theorem Part.lay {n : Nat} {Q : List (List Int)} (hQ : Cnt n Q) : ∀ {k : Nat} {P : List (List Int)}, Part Q k P → k ≤ n → (laidP (takenS Q k P).reverse).1 = P ∧ ∀ i, (laidP (takenS Q k P).reverse).2.getD i [] = (Q.getD i []).take (pl (k : Int) (Q.getD i []))
  | 0, P, h, _ => by
    have h0 : ∀ i, pl (0 : Int) (Q.getD i []) = 0 := fun i => by
      refine pl_eq (by omega) (fun j _ hj => by omega) fun hh => ?_
      have : (Q.getD i [])[0] ∈ rdg Q := mem_rdg.mpr ⟨i, List.getElem_mem hh⟩
      have := mem_onesN.mp (hQ.qp.mem_iff.mp this)
      omega
    refine ⟨?_, fun i => ?_⟩
    · cases P with
      | nil => rfl
      | cons r P =>
        have := h.len 0
        have h2 := len_pos h.p.1
        rw [show ((0 : Nat) : Int) = 0 from rfl, h0] at this
        simp [rowL] at this
        exact absurd this h.p.1
    · rw [show ((0 : Nat) : Int) = 0 from rfl, h0]
      rfl
  | k + 1, P, h, hk => by
    have hc := h.corner hQ (by omega)
    have tk := takeO_ok h.p h.pn hc
    have ih := Part.lay hQ (h.next hQ (by omega)) (by omega)
    have hm := rowOf_mem hQ.qn (hQ.qp.mem_iff.mpr (mem_onesN.mpr ⟨by omega, by omega⟩) : ((k : Int) + 1) ∈ rdg Q)
    have hll := (laidP_len (takenS Q k (takeO P (rowOf Q ((k : Int) + 1))).1).reverse).2
    have hlt := corner_lt hc
    rw [takenS, List.reverse_cons, laidP_snoc, ih.1, tk.lay]
    refine ⟨rfl, fun i => ?_⟩
    have hle : rowOf Q ((k : Int) + 1) ≤ (laidP (takenS Q k (takeO P (rowOf Q ((k : Int) + 1))).1).reverse).2.length := by
      rw [hll, ih.1]
      have := layIn_at (takeO P (rowOf Q ((k : Int) + 1))).1 (takeO P (rowOf Q ((k : Int) + 1))).2
      rw [tk.lay] at this
      exact this
    simp only [List.length_reverse, takenS_len]
    rw [addAt_getD hle, ih.2, ih.2]
    have ek : ((k + 1 : Nat) : Int) = (k : Int) + 1 := by omega
    rw [ek]
    by_cases c : i = rowOf Q ((k : Int) + 1)
    · rw [if_pos c]
      subst c
      obtain ⟨p, hp, e, e1, e2⟩ := pl_mem (getD_str hQ.q _) hm
      rw [show (k : Int) + 1 - 1 = k by omega] at e2
      rw [e1, e2, List.take_succ_eq_append_getElem hp, e]
    · rw [if_neg c]
      have : ((k : Int) + 1) ∉ Q.getD i [] := fun hm2 => c (row_unique hQ.qn hm2 hm)
      have := pl_nmem this
      rw [show (k : Int) + 1 - 1 = k by omega] at this
      rw [this]
theorem Pair.cnt {n : Nat} {P Q : List (List Int)} (h : Pair n P Q) : Cnt n Q := ⟨h.q, h.qp⟩
theorem pl_all {n : Nat} {Q : List (List Int)} (h : Cnt n Q) (i : Nat) : pl (n : Int) (Q.getD i []) = (Q.getD i []).length := by
  refine pl_eq (by omega) (fun j hj _ => ?_) fun hh => by omega
  have : (Q.getD i [])[j] ∈ rdg Q := mem_rdg.mpr ⟨i, List.getElem_mem hj⟩
  have := mem_onesN.mp (h.qp.mem_iff.mp this)
  omega
theorem Pair.part {n : Nat} {P Q : List (List Int)} (h : Pair n P Q) : Part Q n P := ⟨h.p, h.pn, fun i => by rw [h.len, pl_all h.cnt]⟩
/-- the row taken out of two stairs is laid to these -/
theorem Pair.laid {n : Nat} {P Q : List (List Int)} (h : Pair n P Q) : laidP (takenS Q n P).reverse = (P, Q) := by
  obtain ⟨h1, h2⟩ := h.part.lay h.cnt (Nat.le_refl n)
  have hll := (laidP_len (takenS Q n P).reverse).2
  rw [h1] at hll
  refine Prod.ext h1 ?_
  refine rows_ne (hll.trans h.lens.1) fun j hj => ?_
  rw [h2, pl_all h.cnt, List.take_length]
end Sw

/- part PlL -/
/-! taken: what it computes. -/
namespace Sw
open PySem L2
theorem in_iD (y : Int) (ns : List Int) : inO (.int y) (iD ns) = some (decide (y ∈ ns)) := by
  show (if SeqAt.shaped (toP (.int y)) = true ∧ SeqAt.shaped (toP (.lst (ns.map D.int))) = true then some ((toPs (ns.map D.int)).any fun z => PyData.eqv z (toP (.int y))) else none) = _
  rw [if_pos ⟨sh_int y, sh_iD ns⟩, toPs_map]
  congr 1
  rw [List.map_map, List.any_map]
  induction ns with
  | nil => simp
  | cons a r ih =>
    rw [List.any_cons, ih]
    simp only [Function.comp, toP, PyData.eqv]
    by_cases c : a = y
    · subst c; simp
    · have : ¬ y = a := fun e => c e.symm
      simp [c, this]
theorem stab_len : ∀ {T : List (List Int)}, (∀ r ∈ T, r ≠ []) → T.length ≤ (rdg T).length
  | [], _ => Nat.zero_le _
  | r :: T, h => by
    have := stab_len fun q hq => h q (.tail _ hq)
    have := len_pos (h r (.head _))
    rw [rdg_cons, List.length_append, List.length_cons]
    omega
theorem row_of_eq {Q : List (List Int)} {y : Int} (h : y ∈ rdg Q) (hl : Q.length ≤ 16777216) : f_row_of (rD Q) (.int y) = .rt (.int (rowOf Q y : Int)) := by
  unfold f_row_of
  simp only [Rs.bind_nx, lenD_lst, List.length_map, Rs.to_nx, rngD1_len hl]
  refine forU_ret (P := fun o => o = .rt (.int (rowOf Q y : Int))) (fun k _ => ∀ j, j < k → y ∉ Q.getD j []) (fun j hj => by omega) ?_ ?_
  · intro k s hk hj
    simp only [ixD_rD hk, Rs.bind_nx, in_iD, ofO_some, Rs.to_nx]
    by_cases c : y ∈ Q[k]
    · right
      have : rowOf Q y = k := rowOf_eq (by rw [rows_getD hk]; exact c) hj
      simp [c, this]
    · left
      refine ⟨(), by simp [c], fun j hj' => ?_⟩
      rcases Nat.lt_or_eq_of_le (Nat.le_of_lt_succ hj') with h | h
      · exact hj j h
      · subst h
        rw [rows_getD hk]
        exact c
  · intro _ hj
    obtain ⟨i, hi⟩ := mem_rdg.mp h
    exact absurd hi (hj i (mem_getD_lt hi))
theorem ones_comp {n : Nat} (h : n ≤ 1000000) : compRg yes (fun d => intD (· + ·) d (.int 1)) n = .nx (iD (onesN n)) := by
  unfold compRg upto
  rw [compD_map (fun (i : Nat) => D.int i) (fun _ => true) (fun i : Nat => D.int ((i : Int) + 1)) (List.range n) (by simp; omega) (fun _ _ => rfl) (fun i hi _ => rfl)]
  rw [List.filter_eq_self.mpr (by simp)]
  simp [onesN, Function.comp_def]
def GoodPair (P Q : List (List Int)) : Prop := Stairs P ∧ Stairs Q ∧ P.map List.length = Q.map List.length ∧ sortI (rdg Q) = onesN (rdg P).length
instance (P Q : List (List Int)) : Decidable (GoodPair P Q) := inferInstanceAs (Decidable (_ ∧ _ ∧ _ ∧ _))
theorem lens_iff {P Q : List (List Int)} : (P.map fun r => (r.length : Int)) = (Q.map fun r => (r.length : Int)) ↔ P.map List.length = Q.map List.length := by
  constructor
  · intro h
    have := congrArg (List.map Int.toNat) h
    simpa [Function.comp_def] using this
  · intro h
    have := congrArg (List.map fun n : Nat => (n : Int)) h
    simpa [Function.comp_def] using this
theorem lens_rowL {P Q : List (List Int)} (h : P.map List.length = Q.map List.length) (i : Nat) : rowL P i = rowL Q i := by
  rw [← rowL_lens, ← rowL_lens, h]
theorem GoodPair.pair {P Q : List (List Int)} (h : GoodPair P Q) : Pair (rdg P).length P Q :=
  ⟨h.1.1, h.1.2, h.2.1.1, (sortI_perm _).symm.trans (List.Perm.of_eq h.2.2.2), lens_rowL h.2.2.1⟩
theorem Pair.good {n : Nat} {P Q : List (List Int)} (h : Pair n P Q) : GoodPair P Q := by
  refine ⟨⟨h.p, h.pn⟩, ⟨h.q, h.qn⟩, ?_, ?_⟩
  · apply List.ext_getElem
    · simpa using h.lens.1
    · intro i h1 h2
      simp at h1 h2
      have := h.len i
      rw [rowL_at h1, rowL_at h2] at this
      simpa using this
  · rw [h.lens.2]
    exact sorted_unique ((sortI_perm _).trans h.qp) (sortI_sorted _) (onesN_sorted n)
theorem shape_eq {T : List (List Int)} (h : T.length ≤ 16777216) : f_shape (rD T) = .rt (iD (T.map fun r => (r.length : Int))) := by
  unfold f_shape
  simp only [Rs.bind_nx, lens_rD h, Rs.to_nx]
theorem rngD3_g {i j : Int} (h1 : -1000000 ≤ i) (h2 : i < 1000000) (h3 : -1000000 ≤ j) (h4 : j < 1000000) : rngD3 [.int i, .int j, .int (-1)] = .nx ((List.range (i - j).toNat).map fun (t : Nat) => D.int (i - t)) := by
  show (if (-1 : Int) = -1 ∧ -(2 ^ 62) ≤ i ∧ i < 2 ^ 62 ∧ -(2 ^ 62) ≤ j ∧ j < 2 ^ 62 then Rs.nx ((List.range (i - j).toNat).map fun (t : Nat) => D.int (i - t)) else .err) = _
  rw [if_pos (by omega)]
theorem rngD3_to0 {n : Nat} (h : n < 1000000) : rngD3 [.int (n : Int), .int 0, .int (-1)] = .nx ((List.range n).map fun (t : Nat) => D.int ((n : Int) - t)) := by
  rw [rngD3_g (by omega) (by omega) (by omega) (by omega), show ((n : Int) - 0).toNat = n by omega]
theorem rev_comp {xs : List Int} {n : Nat} (hn : xs.length = n) (h : n ≤ 1000000) : compRg yes (fun d => ((intD (· - ·) (.int ((n : Int) - 1)) d).bind fun x => ixD (iD xs) x).bind at?) n = .nx (iD xs.reverse) := by
  unfold compRg upto
  rw [compD_map (fun (i : Nat) => D.int i) (fun _ => true) (fun i : Nat => D.int (xs.getD (n - 1 - i) 0)) (List.range n) (by simp; omega) (fun _ _ => rfl) (fun i hi _ => ?_)]
  · rw [List.filter_eq_self.mpr (by simp)]
    congr 2
    apply List.ext_getElem
    · simp [hn]
    · intro i h1 h2
      simp at h1 h2
      simp only [List.getElem_map, List.getElem_range, List.getElem_reverse]
      rw [getD_at (by omega)]
      congr 2
      omega
  · have hi := List.mem_range.mp hi
    have e : (n : Int) - 1 - (i : Int) = ((n - 1 - i : Nat) : Int) := by omega
    simp only [intD_int, Rs.bind_nx, e]
    rw [ixD_getD (by omega)]
    rfl
theorem taken_no {P Q : List (List Int)} (hp : (rdg P).length ≤ 60) (hq : (rdg Q).length ≤ 60) (hP : P.length ≤ 900) (hQ : Q.length ≤ 900) (h : ¬ GoodPair P Q) : f_taken (rD P) (rD Q) = .exc "NoPair" := by
  unfold f_taken
  simp only [Rs.bind_nx, is_stairs_eq (T := P) (by omega) hP, is_stairs_eq (T := Q) (by omega) hQ, callN_rt, asB_bl, shape_eq (T := P) (by omega), shape_eq (T := Q) (by omega), neO_iD, ofO_some]
  by_cases c1 : Stairs P
  · by_cases c2 : Stairs Q
    · by_cases c3 : P.map List.length = Q.map List.length
      · have c4 : ¬ sortI (rdg Q) = onesN (rdg P).length := fun e => h ⟨c1, c2, c3, e⟩
        simp only [c1, c2, lens_iff.mpr c3, decide_true, Bool.not_true, Bool.false_eq_true, if_false, Rs.to_nx, Out.bind_nx, reading_eq (T := P) (by omega), reading_eq (T := Q) (by omega), callN_rt, Rs.bind_nx, lenD_lst, List.length_map,
          sortedD_iD (ns := rdg Q) (by omega), rng1_int (j := ((rdg P).length : Int)) (by omega) (by omega), Int.toNat_natCast, ones_comp (n := (rdg P).length) (by omega), neO_iD, ofO_some, c4, decide_false, Bool.not_false, if_true, Out.bind_exc]
      · have c3' : ¬ (P.map fun r => (r.length : Int)) = (Q.map fun r => (r.length : Int)) := fun e => c3 (lens_iff.mp e)
        simp [c1, c2, c3']
    · simp [c1, c2]
  · simp [c1]
theorem taken_eq {P Q : List (List Int)} (hp : (rdg P).length ≤ 60) (h : GoodPair P Q) : f_taken (rD P) (rD Q) = .rt (iD (takenS Q (rdg P).length P).reverse) := by
  have pr := h.pair
  have hq : (rdg Q).length = (rdg P).length := by rw [pr.qp.length_eq, onesN_len]
  have hP := stab_len (STab.ne pr.p)
  have hQ := stab_len (STab.ne pr.q)
  unfold f_taken
  simp only [Rs.bind_nx, is_stairs_eq (T := P) (by omega) (by omega), is_stairs_eq (T := Q) (by omega) (by omega), callN_rt, asB_bl, shape_eq (T := P) (by omega), shape_eq (T := Q) (by omega), neO_iD, ofO_some,
    h.1, h.2.1, lens_iff.mpr h.2.2.1, decide_true, Bool.not_true, Bool.false_eq_true, if_false, Rs.to_nx, Out.bind_nx, reading_eq (T := P) (by omega), reading_eq (T := Q) (by omega), lenD_lst, List.length_map,
    sortedD_iD (ns := rdg Q) (by omega), rng1_int (j := ((rdg P).length : Int)) (by omega) (by omega), Int.toNat_natCast, ones_comp (n := (rdg P).length) (by omega), h.2.2.2, lstD_nil, negD_i, rngD3_to0 (show (rdg P).length < 1000000 by omega)]
  generalize hn : (rdg P).length = n at *
  refine forL_then (P := fun o => o = .rt (iD (takenS Q n P).reverse)) (fun t (s : D × D) => ∃ P', s = (rD P', iD ((takenS Q n P).take t)) ∧ Part Q (n - t) P' ∧ takenS Q n P = (takenS Q n P).take t ++ takenS Q (n - t) P' ∧ (rdg P').length + t = n) ⟨P, by simp, by simpa using pr.part, by simp, by omega⟩ ?_ ?_
  · rintro t d s hd ⟨P', rfl, hpt, htk, hlen⟩
    obtain ⟨ht, e⟩ := map_get hd
    simp only [List.length_range] at ht
    rw [List.getElem_range] at e
    subst e
    obtain ⟨k, hk⟩ : ∃ k, n - t = k + 1 := ⟨n - t - 1, by omega⟩
    rw [hk] at hpt htk
    have hkn : n - (t + 1) = k := by omega
    have ek : (n : Int) - t = (k : Int) + 1 := by omega
    have hc := hpt.corner pr.cnt (by omega)
    have hnx := hpt.next pr.cnt (by omega)
    have hm : ((k : Int) + 1) ∈ rdg Q := pr.cnt.qp.mem_iff.mpr (mem_onesN.mpr ⟨by omega, by omega⟩)
    have hP' := stab_len (STab.ne hpt.p)
    have ht1 := row_of_eq hm (by omega)
    have ht2 := take_out_eq hpt.p hpt.pn hc (by omega) fun r hr => by have := rdg_len hr; omega
    have tk := takeO_ok hpt.p hpt.pn hc
    have hl1 := tk.perm.length_eq
    rw [takenS] at htk
    have htl : (takenS Q n P).length = n := takenS_len n P
    have hst : (takenS Q n P).take (t + 1) = (takenS Q n P).take t ++ [(takeO P' (rowOf Q ((k : Int) + 1))).2] := by
      have hlt : ((takenS Q n P).take t).length = t := by rw [List.length_take]; omega
      rw [List.take_succ_eq_append_getElem (by omega)]
      have : (takenS Q n P)[t]? = some (takeO P' (rowOf Q ((k : Int) + 1))).2 := by
        rw [htk, List.getElem?_append_right (by omega), hlt, Nat.sub_self]
        rfl
      rw [List.getElem?_eq_getElem (by omega)] at this
      rw [Option.some.inj this]
    refine ⟨_, ?_, (takeO P' (rowOf Q ((k : Int) + 1))).1, rfl, by rw [hkn]; exact hnx, ?_, ?_⟩
    · have ho := opD_app_iD (ns := (takenS Q n P).take t) (x := (takeO P' (rowOf Q ((k : Int) + 1))).2) (by rw [List.length_take]; omega)
      simp only [ek, ht1, callN_rt, Rs.bind_nx, ht2, callX_rt, Rs.to_nx, ixD_tup0, ixD_tup1, ho, hst]
    · rw [hkn, hst, List.append_assoc]
      exact htk
    · simp only [List.length_cons] at hl1
      omega
  · rintro s ⟨P', rfl, _, _, _⟩
    simp only [List.length_map, List.length_range]
    rw [List.take_of_length_le (by rw [takenS_len]; exact Nat.le_refl _)]
    have hrv := rev_comp (xs := takenS Q n P) (takenS_len n P) (by omega)
    have e : (n : Int) - 1 = ((n : Int) - 1) := rfl
    simp only [intD_int, Rs.bind_nx, rng1_int (j := (n : Int)) (by omega) (by omega), Int.toNat_natCast] at hrv ⊢
    simp only [hrv, Rs.to_nx]
end Sw

/- part PlM -/
namespace Sw
open PySem L2
theorem rises_eq {T : List (List Int)} (h : STab T) (hl : T.length ≤ 900) (hr : ∀ r ∈ T, r.length ≤ 900) : f_law_rises (rD T) = .rt (.bl true) := by
  unfold f_law_rises
  simp only [Rs.bind_nx, lenD_lst, List.length_map, Rs.to_nx, rngD1_len (show T.length ≤ 16777216 by omega)]
  have hst := stab_iff.mp h
  have h1 := hst.1
  have h2 := hst.2
  unfold shpB at h1
  unfold cellsB at h2
  simp only [List.length_map, all_range, rowL_lens, Bool.and_eq_true, Bool.or_eq_true, decide_eq_true_eq] at h1
  simp only [all_range] at h2
  rw [forU_unit]
  · simp
  · intro k hk
    have hrow := hr _ (List.getElem_mem hk)
    have hs := h1 k hk
    have hc := h2 k hk
    rw [rowL_at hk] at hs hc
    have hz : ¬ ((T[k].length : Int) = 0) := by omega
    simp only [ixD_rD hk, Rs.bind_nx, isi_list, ofB_some, asB_bl, Bool.not_true, Bool.false_eq_true, if_false, lenD_lst, List.length_map, eqO_int, ofO_some, hz, decide_false, row_refl (xs := T[k]) (by omega), callN_rt, in_non, Rs.to_nx, Out.bind_nx, gtO_int]
    have first : (if decide ((0 : Int) < (k : Int)) = true then ((((intD (· - ·) (.int (k : Int)) (.int 1)).bind fun x25 => ixD (rD T) x25).bind fun x26 => lenD [x26]).bind fun x28 => ofO (ltO x28 (.int (T[k].length : Int)))) else (Rs.nx false : Rs Bool)) = .nx false := by
      by_cases c : k = 0
      · subst c; simp
      · have e1 : (0 : Int) < (k : Int) := by omega
        have e2 : (k : Int) - 1 = ((k - 1 : Nat) : Int) := by omega
        have h3 := hs.2.resolve_left c
        rw [rowL_at (by omega)] at h3
        have e3 : ¬ ((T[k - 1].length : Int) < T[k].length) := by omega
        simp only [e1, decide_true, if_true, intD_int, Rs.bind_nx, e2, ixD_rD (rows := T) (show k - 1 < T.length by omega), lenD_lst, List.length_map, ltO_int, ofO_some, e3, decide_false]
    rw [first]
    simp only [Rs.to_nx, Bool.false_eq_true, if_false, Out.bind_nx, rngD1_len (show T[k].length ≤ 16777216 by omega)]
    rw [forU_unit]
    · rfl
    · intro j hj
      have hcj := hc j hj
      unfold cellB at hcj
      simp only [Bool.and_eq_true, Bool.or_eq_true, decide_eq_true_eq] at hcj
      have f1 : (if decide ((0 : Int) < (j : Int)) = true then (((intD (· - ·) (.int (j : Int)) (.int 1)).bind fun x54 => ixD (iD T[k]) x54).bind fun x57 => (ixD (iD T[k]) (.int (j : Int))).bind fun x58 => ofO (geO x57 x58)) else (Rs.nx false : Rs Bool)) = .nx false := by
        by_cases c : j = 0
        · subst c; simp
        · have e1 : (0 : Int) < (j : Int) := by omega
          have e2 : (j : Int) - 1 = ((j - 1 : Nat) : Int) := by omega
          have h3 := hcj.1.resolve_left c
          have e3 : ¬ cell T k j ≤ cell T k (j - 1) := by omega
          simp only [e1, decide_true, if_true, intD_int, Rs.bind_nx, e2, ixD_cell hk (show j - 1 < T[k].length by omega), ixD_cell hk hj, geO_int, ofO_some, e3, decide_false]
      have f2 : (if decide ((0 : Int) < (k : Int)) = true then ((((intD (· - ·) (.int (k : Int)) (.int 1)).bind fun x41 => ixD (rD T) x41).bind fun x42 => ixD x42 (.int (j : Int))).bind fun x46 => (ixD (iD T[k]) (.int (j : Int))).bind fun x47 => ofO (geO x46 x47)) else (Rs.nx false : Rs Bool)) = .nx false := by
        by_cases c : k = 0
        · subst c; simp
        · have e1 : (0 : Int) < (k : Int) := by omega
          have e2 : (k : Int) - 1 = ((k - 1 : Nat) : Int) := by omega
          have h3 := hcj.2.resolve_left c
          have h4 := hs.2.resolve_left c
          rw [rowL_at (by omega)] at h4
          have e3 : ¬ cell T k j ≤ cell T (k - 1) j := by omega
          have hk1 : k - 1 < T.length := by omega
          simp only [e1, decide_true, if_true, intD_int, Rs.bind_nx, e2, ixD_rD hk1, ixD_cell hk1 (show j < T[k - 1].length by omega), ixD_cell hk hj, geO_int, ofO_some, e3, decide_false]
      simp only [gtO_int, ofO_some, Rs.bind_nx, f1, f2, Bool.false_eq_true, if_false, Rs.to_nx, Out.bind_nx]
end Sw

/- part PlN -/
/-! Fillings drawn by taking ends away: they count. -/
namespace Sw
open PySem L2
abbrev nD (ls : List Nat) : D := iD (ls.map fun n : Nat => (n : Int))
/-- a shape with rows that may be empty -/
def Anti (m : List Nat) : Prop := ∀ i, m.getD (i + 1) 0 ≤ m.getD i 0
/-- rows joined: Q's row, then what is left of M's -/
def joinR (Q M : List (List Int)) (m : List Nat) : List (List Int) := (List.range m.length).map fun i => Q.getD i [] ++ (M.getD i []).drop (m.getD i 0)
structure Fil (n : Nat) (ls : List Nat) (k : Nat) (m : List Nat) (M : List (List Int)) : Prop where
  ml : m.length = ls.length
  Ml : M.length = ls.length
  row : ∀ i, rowL M i = ls.getD i 0
  le : ∀ i, m.getD i 0 ≤ ls.getD i 0
  anti : Anti m
  sum : m.sum = k
  fin : ∀ Q, Cnt k Q → (∀ i, rowL Q i = m.getD i 0) → Cnt n (joinR Q M m)
def endB (m : List Nat) (a : Nat) : Bool := decide (0 < m.getD a 0) && (decide (a + 1 = m.length) || decide (m.getD (a + 1) 0 < m.getD a 0))
theorem set_getD {α : Type} [Inhabited α] {l : List α} {j i : Nat} {x d : α} (h : j < l.length) : (l.set j x).getD i d = if i = j then x else l.getD i d := by
  simp only [List.getD_eq_getElem?_getD, List.getElem?_set]
  by_cases c : i = j
  · subst c; simp [h]
  · rw [if_neg (fun e => c e.symm), if_neg c]
theorem sum_set : ∀ {l : List Nat} {j : Nat} {x : Nat}, j < l.length → (l.set j x).sum + l.getD j 0 = l.sum + x
  | a :: l, 0, x, _ => by simp; omega
  | a :: l, j + 1, x, h => by
    have := sum_set (l := l) (j := j) (x := x) (by simpa using h)
    simp only [List.set_cons_succ, List.sum_cons, List.getD_cons_succ]
    omega
theorem sum_pos {l : List Nat} (h : 0 < l.sum) : ∃ i < l.length, 0 < l.getD i 0 := by
  induction l with
  | nil => simp at h
  | cons a l ih =>
    by_cases c : 0 < a
    · exact ⟨0, by simp, by simpa using c⟩
    · obtain ⟨i, h1, h2⟩ := ih (by simp at h; omega)
      exact ⟨i + 1, by simpa using h1, by simpa using h2⟩
theorem getD_out {l : List Nat} {i : Nat} (h : l.length ≤ i) : l.getD i 0 = 0 := by
  rw [List.getD_eq_getElem?_getD, List.getElem?_eq_none h]; rfl
theorem end_ex {m : List Nat} (h : 0 < m.sum) : ∃ a < m.length, endB m a = true := by
  obtain ⟨i, h1, h2⟩ := sum_pos h
  have go : ∀ (d i : Nat), i + d + 1 = m.length → 0 < m.getD i 0 → ∃ a < m.length, endB m a = true := by
    intro d
    induction d with
    | zero => intro i hi hp; exact ⟨i, by omega, by unfold endB; simp only [hp, decide_true, Bool.true_and]; simp; left; omega⟩
    | succ d ih =>
      intro i hi hp
      by_cases c : m.getD (i + 1) 0 < m.getD i 0
      · refine ⟨i, by omega, ?_⟩
        unfold endB
        simp only [hp, c, decide_true, Bool.or_true, Bool.and_self]
      · exact ih (i + 1) (by omega) (by omega)
  exact go (m.length - i - 1) i (by omega) h2
theorem end_less {m : List Nat} {a : Nat} (h : endB m a = true) : 0 < m.getD a 0 ∧ m.getD (a + 1) 0 < m.getD a 0 := by
  unfold endB at h
  simp only [Bool.and_eq_true, Bool.or_eq_true, decide_eq_true_eq] at h
  refine ⟨h.1, ?_⟩
  rcases h.2 with e | e
  · rw [getD_out (l := m) (i := a + 1) (by omega)]; exact h.1
  · exact e
theorem Fil.step {n k : Nat} {ls m : List Nat} {M : List (List Int)} {a : Nat} (h : Fil n ls (k + 1) m M) (ha : a < m.length) (he : endB m a = true) :
    Fil n ls k (m.set a (m.getD a 0 - 1)) (M.set a ((M.getD a []).set (m.getD a 0 - 1) ((k : Int) + 1))) := by
  obtain ⟨e1, e2⟩ := end_less he
  have hm : ∀ i, (m.set a (m.getD a 0 - 1)).getD i 0 = if i = a then m.getD a 0 - 1 else m.getD i 0 := fun i => set_getD ha
  have haM : a < M.length := by rw [h.Ml, ← h.ml]; exact ha
  have hM : ∀ i, (M.set a ((M.getD a []).set (m.getD a 0 - 1) ((k : Int) + 1))).getD i [] = if i = a then (M.getD a []).set (m.getD a 0 - 1) ((k : Int) + 1) else M.getD i [] := fun i => set_getD haM
  refine ⟨by simpa using h.ml, by simpa using h.Ml, fun i => ?_, fun i => ?_, fun i => ?_, ?_, fun Q hQ hl => ?_⟩
  · show ((M.set a _).getD i []).length = _
    rw [hM]
    by_cases c : i = a
    · rw [if_pos c, List.length_set, c]; exact h.row a
    · rw [if_neg c]; exact h.row i
  · rw [hm]
    have := h.le i
    split
    · rename_i c; subst c; omega
    · exact this
  · rw [hm, hm]
    have := h.anti i
    by_cases c1 : i + 1 = a
    · have c2 : i ≠ a := by omega
      rw [if_pos c1, if_neg c2]
      subst c1
      omega
    · rw [if_neg c1]
      by_cases c2 : i = a
      · rw [if_pos c2]; subst c2; omega
      · rw [if_neg c2]; exact this
  · have := sum_set (l := m) (j := a) (x := m.getD a 0 - 1) ha
    have := h.sum
    omega
  · -- one number more
    have hQa : a ≤ Q.length := by
      by_cases c0 : a = 0
      · omega
      · have h1 := hl (a - 1)
        rw [hm, if_neg (by omega)] at h1
        have h2 := h.anti (a - 1)
        rw [show a - 1 + 1 = a by omega] at h2
        have : a - 1 < Q.length := by
          by_cases c : a - 1 < Q.length
          · exact c
          · rw [rowL_out (by omega)] at h1; omega
        omega
    have hc : Cnt (k + 1) (addAt Q a ((k : Int) + 1)) := by
      refine ⟨stab_addAt hQ.q (less_of hQ.qp) hQa fun h0 => ?_, ?_⟩
      · rw [hl, hl, hm, hm, if_pos rfl, if_neg (by omega)]
        have h2 := h.anti (a - 1)
        rw [show a - 1 + 1 = a by omega] at h2
        omega
      · rw [onesN_succ]
        exact (rdg_addAt hQa).trans ((List.Perm.cons _ hQ.qp).trans (List.perm_append_singleton _ _).symm)
    have hf := h.fin _ hc fun i => by
      show ((addAt Q a ((k : Int) + 1)).getD i []).length = _
      rw [addAt_getD hQa]
      have h1 := hl i
      rw [hm] at h1
      by_cases c : i = a
      · rw [if_pos c] at h1 ⊢
        rw [c] at h1 ⊢
        rw [List.length_append, List.length_singleton]
        have h1 : (Q.getD a []).length = _ := h1
        omega
      · rw [if_neg c] at h1 ⊢
        exact h1
    have : joinR Q (M.set a ((M.getD a []).set (m.getD a 0 - 1) ((k : Int) + 1))) (m.set a (m.getD a 0 - 1)) = joinR (addAt Q a ((k : Int) + 1)) M m := by
      unfold joinR
      rw [List.length_set]
      apply List.map_congr_left
      intro i _
      rw [hM, hm, addAt_getD hQa]
      by_cases c : i = a
      · rw [if_pos c, if_pos c, if_pos c]
        subst c
        have hr : (M.getD i []).length = ls.getD i 0 := h.row i
        have hle := h.le i
        have hlt : m.getD i 0 - 1 < (M.getD i []).length := by omega
        rw [List.append_assoc]
        congr 1
        rw [List.drop_eq_getElem_cons (by rw [List.length_set]; exact hlt), List.getElem_set_self, List.drop_set_of_lt (by omega), show m.getD i 0 - 1 + 1 = m.getD i 0 by omega]
        rfl
      · rw [if_neg c, if_neg c, if_neg c]
    rw [this]
    exact hf
theorem Fil.start {ls : List Nat} {n : Nat} (hp : ∀ x ∈ ls, 0 < x) (ha : Anti ls) (hs : ls.sum = n) : Fil n ls n ls (ls.map fun l => List.replicate l 0) := by
  have hrow : ∀ i, ((ls.map fun l => List.replicate l (0 : Int)).getD i []).length = ls.getD i 0 := fun i => by
    simp only [List.getD_eq_getElem?_getD, List.getElem?_map]
    cases ls[i]? <;> simp
  refine ⟨rfl, by simp, hrow, fun i => Nat.le_refl _, ha, hs, fun Q hQ hl => ?_⟩
  have : joinR Q (ls.map fun l => List.replicate l 0) ls = Q := by
    have hQl : Q.length = ls.length := by
      have h1 : Q.length ≤ ls.length := by
        by_cases c : Q.length ≤ ls.length
        · exact c
        · have h1 := hl ls.length
          rw [getD_out (Nat.le_refl _), rowL_at (by omega)] at h1
          have := len_pos (STab.ne hQ.q _ (List.getElem_mem (show ls.length < Q.length by omega)))
          omega
      have h2 : ls.length ≤ Q.length := by
        by_cases c : ls.length ≤ Q.length
        · exact c
        · have h1 := hl Q.length
          rw [rowL_out (Nat.le_refl _)] at h1
          have := hp (ls.getD Q.length 0) (by rw [List.getD_eq_getElem?_getD, List.getElem?_eq_getElem (by omega)]; exact List.getElem_mem _)
          omega
      omega
    refine rows_ne (by simp [joinR, hQl]) fun j hj => ?_
    unfold joinR
    rw [List.getD_eq_getElem?_getD, List.getElem?_map, List.getElem?_range (by omega)]
    show Q.getD j [] ++ _ = _
    rw [List.drop_of_length_le (by rw [hrow]; exact Nat.le_refl _), List.append_nil]
  rw [this]
  exact hQ
theorem cnt0 : Cnt 0 [] := ⟨True.intro, .refl _⟩
theorem Fil.done {n : Nat} {ls m : List Nat} {M : List (List Int)} (h : Fil n ls 0 m M) : Cnt n M ∧ M.map List.length = ls := by
  have h0 : ∀ i, m.getD i 0 = 0 := fun i => by
    by_cases c : m.getD i 0 = 0
    · exact c
    · exfalso
      have hi : i < m.length := by
        by_cases c2 : i < m.length
        · exact c2
        · exact absurd (getD_out (by omega)) c
      have := sum_set (l := m) (j := i) (x := 0) hi
      have := h.sum
      omega
  have hf := h.fin [] cnt0 fun i => by rw [h0]; rfl
  have : joinR [] M m = M := by
    refine rows_ne (by simp [joinR, h.ml, h.Ml]) fun j hj => ?_
    unfold joinR
    rw [List.getD_eq_getElem?_getD, List.getElem?_map, List.getElem?_range (by rw [h.ml, ← h.Ml]; exact hj)]
    show [] ++ _ = _
    rw [h0]
    rfl
  rw [this] at hf
  refine ⟨hf, ?_⟩
  apply List.ext_getElem
  · simpa using h.Ml
  · intro i h1 h2
    have := h.row i
    rw [rowL_at (by simpa using h1)] at this
    rw [List.getElem_map, this, List.getD_eq_getElem?_getD, List.getElem?_eq_getElem h2]
    rfl
theorem sumD_iD (ns : List Int) : sumD [iD ns] = .nx (.int ns.sum) := by
  show (match getInts (ns.map D.int) with | some ns => if true = true then Rs.nx (D.int ns.sum) else .err | none => .err) = _
  rw [getInts_map]
  rfl
theorem sum_cast : ∀ ls : List Nat, (ls.map fun n : Nat => (n : Int)).sum = ((ls.sum : Nat) : Int)
  | [] => rfl
  | a :: l => by simp [sum_cast l]
theorem ixD_nD {m : List Nat} {i : Nat} (h : i < m.length) : ixD (nD m) (.int (i : Int)) = .nx (.int ((m.getD i 0 : Nat) : Int)) := by
  rw [ixD_iD (by simpa using h), List.getElem_map, List.getD_eq_getElem?_getD, List.getElem?_eq_getElem h]
  rfl
theorem zeros_eq {ls : List Nat} (hl : ls.length ≤ 1000) (hs : ∀ x ∈ ls, x ≤ 1000) : compS yes (fun d => (rng1 [d]).bind (compRg yes fun d5 => (Rs.nx (.int 0)))) (nD ls) = .nx (rD (ls.map fun l => List.replicate l 0)) := by
  rw [show nD ls = .lst (ls.map fun l : Nat => D.int (l : Int)) by simp [Function.comp_def]]
  rw [compS_all (fun l : Nat => D.int (l : Int)) (fun l => iD (List.replicate l 0)) ls (by omega) (fun l hl => ?_)]
  · simp [Function.comp_def]
  · have := hs l hl
    rw [rng1_int (by omega) (by omega), Rs.bind_nx, Int.toNat_natCast]
    unfold compRg upto
    rw [compD_map (fun (i : Nat) => D.int i) (fun _ => true) (fun i : Nat => D.int 0) (List.range l) (by simp; omega) (fun _ _ => rfl) (fun _ _ _ => rfl)]
    rw [List.filter_eq_self.mpr (by simp)]
    congr 2
    apply List.ext_getElem
    · simp
    · intro i h1 h2
      simp
theorem filling_ok {ns : List Int} {ls : List Nat} (hl : ns.length ≤ 63) (hp : ∀ x ∈ ls, 0 < x) (ha : Anti ls) (hs : ls.sum ≤ 60) (hn : ls.length ≤ 60) :
    ∃ Q, f_law_filling_by (.scr ns) (nD ls) = .rt (rD Q) ∧ Cnt ls.sum Q ∧ Q.map List.length = ls := by
  unfold f_law_filling_by
  have hle : ∀ x ∈ ls, x ≤ 60 := fun x hx => by
    have : ∀ (l : List Nat), x ∈ l → x ≤ l.sum := fun l => by
      induction l with
      | nil => intro h; cases h
      | cons a l ih =>
        intro h
        rcases List.mem_cons.mp h with e | e
        · subst e; simp
        · have := ih e; simp; omega
    have := this ls hx
    omega
  have hz := zeros_eq (ls := ls) (by omega) (fun x hx => by have := hle x hx; omega)
  simp only [Rs.bind_nx, listD_iD, hz, sumD_iD, sum_cast, negD_i, Rs.to_nx, rngD3_to0 (show ls.sum < 1000000 by omega)]
  refine forL_then (P := fun o => ∃ Q, o = .rt (rD Q) ∧ Cnt ls.sum Q ∧ Q.map List.length = ls) (fun t (s : D × D) => ∃ m M, s = (nD m, rD M) ∧ Fil ls.sum ls (ls.sum - t) m M ∧ t ≤ ls.sum) ⟨ls, _, rfl, by simpa using Fil.start hp ha rfl, by omega⟩ ?_ ?_
  · rintro t d s hd ⟨m, M, rfl, hf, htn⟩
    obtain ⟨ht, e⟩ := map_get hd
    simp only [List.length_range] at ht
    rw [List.getElem_range] at e
    subst e
    obtain ⟨k, hk⟩ : ∃ k, ls.sum - t = k + 1 := ⟨ls.sum - t - 1, by omega⟩
    rw [hk] at hf
    have hkn : ls.sum - (t + 1) = k := by omega
    have ek : (ls.sum : Int) - t = (k : Int) + 1 := by omega
    have hml := hf.ml
    have hends : compRg (fun d16 => (((ixD (nD m) d16).bind fun x35 => ofO (gtO x35 (.int 0))).bind fun c37 => if c37 = true then (((intD (· + ·) d16 (.int 1)).bind fun x30 => ofO (eqO x30 (.int ((m.length : Nat) : Int)))).bind fun c32 => if c32 = true then Rs.nx true else (((intD (· + ·) d16 (.int 1)).bind fun x22 => ixD (nD m) x22).bind fun x25 => (ixD (nD m) d16).bind fun x26 => ofO (ltO x25 x26))) else Rs.nx false)) (fun d16 => at? d16) m.length =
        .nx (nD ((List.range m.length).filter (endB m))) := by
      unfold compRg upto
      rw [compD_map (f := fun d16 => at? d16) (fun (i : Nat) => D.int i) (endB m) (fun i : Nat => D.int i) (List.range m.length) (by simp; omega) (fun i hi => ?_) (fun i _ _ => at_int _)]
      · simp [Function.comp_def]
      · have hi := List.mem_range.mp hi
        simp only [ixD_nD hi, Rs.bind_nx, gtO_int, ofO_some]
        unfold endB
        by_cases c1 : 0 < m.getD i 0
        · have c1' : (0 : Int) < ((m.getD i 0 : Nat) : Int) := by omega
          simp only [c1, c1', decide_true, if_true, intD_int, Rs.bind_nx, eqO_int, ofO_some, Bool.true_and]
          by_cases c2 : i + 1 = m.length
          · have c2' : (i : Int) + 1 = (m.length : Int) := by omega
            simp [c2, c2']
          · have c2' : ¬ ((i : Int) + 1 = (m.length : Int)) := by omega
            have e1 : (i : Int) + 1 = ((i + 1 : Nat) : Int) := by omega
            simp only [c2, c2', decide_false, Bool.false_eq_true, if_false, Bool.false_or]
            simp only [e1, ixD_nD (show i + 1 < m.length by omega), Rs.bind_nx, ltO_int, ofO_some]
            congr 1
            apply decide_eq_decide.mpr
            omega
        · have c1' : ¬ (0 : Int) < ((m.getD i 0 : Nat) : Int) := by omega
          simp only [c1, c1', decide_false, Bool.false_eq_true, if_false, Bool.false_and]
    obtain ⟨a0, ha0, hb0⟩ := end_ex (m := m) (by have := hf.sum; omega)
    have hE : 0 < ((List.range m.length).filter (endB m)).length := List.length_pos_of_mem (List.mem_filter.mpr ⟨List.mem_range.mpr ha0, hb0⟩)
    generalize hG : (List.range m.length).filter (endB m) = E at *
    have hEl : E.length ≤ 60 := by
      rw [← hG]
      have := List.length_filter_le (endB m) (List.range m.length)
      simp at this
      omega
    have hdr := drawn_eq (ns := ns) hl (k := 300 + ((k : Int) + 1)) (by omega) (by omega) (m := (E.length : Int)) (by omega)
    have d1 := drawn_nn ns (300 + ((k : Int) + 1)) (m := (E.length : Int)) (by omega)
    have d2 := drawn_lt ns (300 + ((k : Int) + 1)) (m := (E.length : Int)) (by omega)
    obtain ⟨u, hu⟩ : ∃ u : Nat, drawn ns (300 + ((k : Int) + 1)) (E.length : Int) = (u : Int) := ⟨_, (Int.toNat_of_nonneg d1).symm⟩
    rw [hu] at hdr d2
    have hul : u < E.length := by omega
    have hae : E.getD u 0 ∈ E := by rw [List.getD_eq_getElem?_getD, List.getElem?_eq_getElem hul]; exact List.getElem_mem _
    generalize hav : E.getD u 0 = a at *
    rw [← hG] at hae
    have ham : a < m.length := List.mem_range.mp (List.mem_filter.mp hae).1
    have hab := (List.mem_filter.mp hae).2
    obtain ⟨p1, p2⟩ := end_less hab
    have hix := ixD_nD (m := E) hul
    rw [hav] at hix
    have hM := hf.Ml
    have haM : a < M.length := by omega
    have hrw := hf.row a
    have hle2 := hf.le a
    rw [rowL_at haM] at hrw
    have hst := hf.step ham hab
    rw [rows_getD haM] at hst
    have s1 : edD none (setL (.int (a : Int)) (.int (((m.getD a 0 - 1 : Nat) : Nat) : Int))) (nD m) = .nx (nD (m.set a (m.getD a 0 - 1))) := by
      show (setL (.int (a : Int)) (.int ((m.getD a 0 - 1 : Nat) : Int)) ((m.map fun n : Nat => (n : Int)).map D.int)).bind (fun es => Rs.nx (D.lst es)) = _
      rw [setL_ok (by simpa using ham), Rs.bind_nx]
      simp [List.map_set]
    have s2 := edD_set (rows := M) (x := (k : Int) + 1) (j := a) (k := m.getD a 0 - 1) haM (by omega)
    have e2 : ((m.getD a 0 : Nat) : Int) - 1 = ((m.getD a 0 - 1 : Nat) : Int) := by omega
    have s3 := ixD_nD (m := m.set a (m.getD a 0 - 1)) (i := a) (by simpa using ham)
    rw [set_getD ham, if_pos rfl] at s3
    refine ⟨_, ?_, _, _, rfl, by rw [hkn]; exact hst, by omega⟩
    simp only [lenD_lst, List.length_map, Rs.bind_nx, rng1_int (j := (m.length : Int)) (by omega) (by omega), Int.toNat_natCast, hends, Rs.to_nx, ek, intD_int, hdr, callN_rt, hix, at_int, ixD_nD ham, e2, s1, idxD_rD haM, s3, s2]
  · rintro s ⟨m, M, rfl, hf, _⟩
    simp only [List.length_map, List.length_range, Nat.sub_self] at hf
    obtain ⟨h1, h2⟩ := hf.done
    exact ⟨M, by simp only [Rs.bind_nx, full2_q, Rs.to_nx], h1, h2⟩
end Sw

/- part K06 -/
namespace Sw
open PySem L2
theorem flat_perm : ∀ T : List (List Int), T.flatten.Perm (rdg T)
  | [] => .refl _
  | r :: T => by
    rw [List.flatten_cons, rdg_cons]
    exact List.perm_append_comm.trans ((flat_perm T).append_right r)
theorem flat_take {T : List (List Int)} {k : Nat} (h : k < T.length) : (T.take (k + 1)).flatten = (T.take k).flatten ++ T[k] := by
  rw [List.take_succ_eq_append_getElem h, List.flatten_append]
  simp
theorem flat_len {T : List (List Int)} (k : Nat) : (T.take k).flatten.length ≤ (rdg T).length := by
  rw [← (flat_perm T).length_eq]
  have e : T.flatten = (T.take k).flatten ++ (T.drop k).flatten := by rw [← List.flatten_append, List.take_append_drop]
  rw [e, List.length_append]
  omega
theorem true_k06 (ns : List Int) (hl : ns.length ≤ 63) : f_law_k06 (.scr ns) = .rt (.bl true) := by
  unfold f_law_k06
  obtain ⟨row, er, hr0, hnd⟩ := row_by_ok hl (b := 40) (by omega) (by omega)
  have er : f_law_row_by (.scr ns) (.int 40) = .rt (iD row) := er
  have hld := laid_eq (row := row) (by omega)
  obtain ⟨hp, hpm⟩ := laid_pair row hnd
  have htl := taken_laid row hnd
  have hlen := hp.lens
  have hok := laidP_ok row
  have h1 := hok.le
  have hgood := hp.good
  have hqperm := hp.qp
  generalize (laidP row).1 = P at *
  generalize (laidP row).2 = Q at *
  have hpr : ∀ r ∈ P, r.length ≤ 900 := fun r hr => by have := rdg_len hr; omega
  have hqn : (rdg Q).length = row.length := by rw [hqperm.length_eq, onesN_len]
  have hqr : ∀ r ∈ Q, r.length ≤ 900 := fun r hr => by have := rdg_len hr; omega
  have e1 := rises_eq hp.p (by omega) hpr
  have e2 := rises_eq hp.q (by omega) hqr
  have e3 := taken_eq (P := P) (Q := Q) (by omega) hgood
  rw [hlen.2, htl, List.reverse_reverse] at e3
  have l4 := copy_rD (rows := P) (by omega)
  have l5 := copy_rD (rows := Q) (by omega)
  simp only [Rs.bind_nx] at l4 l5
  have e5 := rows_refl_i (rows := P) (by omega) (fun r hr => by have := hpr r hr; omega)
  have e6 := rows_refl_i (rows := Q) (by omega) (fun r hr => by have := hqr r hr; omega)
  have e7 := row_refl (xs := row) (by omega)
  have tup2 : ∀ a b : D, tupD [a, b] = .nx (.tup [a, b]) := fun a b => by
    unfold tupD
    rw [if_pos (by rw [szl]; simp)]
  simp only [Rs.bind_nx, er, callN_rt, Rs.to_nx, listD_iD, hld, isi_tuple, isi_list, ofB_some, asB_bl, lenD_tup, List.length_cons, List.length_nil, neO_int, ofO_some, ixD_tup0, ixD_tup1, e1, e2, lens_rD (T := P) (by omega), lens_rD (T := Q) (by omega), neO_iD, lens_iff.mpr hgood.2.2.1,
    decide_true, Bool.not_true, Bool.false_eq_true, if_false, Out.bind_nx, lstD_nil, lenD_lst, List.length_map, rngD1_len (show P.length ≤ 16777216 by omega)]
  simp only [show decide (((0 + 1 + 1 : Nat) : Int) = 2) = true from rfl, Bool.not_true, Bool.false_eq_true, if_false, Rs.to_nx, Rs.bind_nx, Out.bind_nx]
  refine forU_then (P := fun o => o = .rt (.bl true)) (fun (k : Nat) (s : D × D) => s = (iD (Q.take k).flatten, iD (P.take k).flatten)) rfl ?_ ?_
  · rintro k s hk rfl
    have hkq : k < Q.length := by omega
    have c1 := catD_iD (a := (P.take k).flatten) (b := P[k]) (by have := flat_len (T := P) k; have := hpr _ (List.getElem_mem hk); omega)
    have c2 := catD_iD (a := (Q.take k).flatten) (b := Q[k]) (by have := flat_len (T := Q) k; have := hqr _ (List.getElem_mem hkq); omega)
    refine ⟨_, ?_, rfl⟩
    simp only [ixD_rD hk, ixD_rD hkq, Rs.bind_nx, c1, c2, Rs.to_nx, flat_take hk, flat_take hkq]
  · rintro s rfl
    rw [List.take_length, show P.length = Q.length from hlen.1, List.take_length]
    have s1 : sortI Q.flatten = onesN row.length := sorted_unique ((sortI_perm _).trans ((flat_perm Q).trans hqperm)) (sortI_sorted _) (onesN_sorted _)
    have s2 : sortI P.flatten = sortI row := sortI_eq ((flat_perm P).trans hpm)
    have n1 : Q.flatten.length = row.length := by rw [(flat_perm Q).length_eq, hqn]
    have n2 : P.flatten.length = row.length := by rw [(flat_perm P).length_eq, hlen.2]
    simp only [sortedD_iD (ns := Q.flatten) (by omega), sortedD_iD (ns := P.flatten) (by omega), sortedD_iD (ns := row) (by omega), Rs.bind_nx, rng1_int (j := (row.length : Int)) (by omega) (by omega), Int.toNat_natCast, ones_comp (n := row.length) (by omega), neO_iD, ofO_some, s1, s2, decide_true, Bool.not_true, Bool.false_eq_true, if_false, Rs.to_nx, Out.bind_nx, l4, l5, tup2, ixD_tup0, ixD_tup1, e3, callX_rt, callN_rt, e5, e6, e7, andD]
end Sw

/- part K07 -/
namespace Sw
open PySem L2
theorem tup2 (a b : D) : tupD [a, b] = .nx (.tup [a, b]) := by
  unfold tupD
  rw [if_pos (by rw [szl]; simp)]
theorem anti_lens {T : List (List Int)} (h : STab T) : Anti (T.map List.length) := fun i => by
  rw [rowL_lens, rowL_lens]
  exact STab.le i h
theorem sum_lens : ∀ T : List (List Int), (T.map List.length).sum = (rdg T).length
  | [] => rfl
  | r :: T => by
    rw [List.map_cons, List.sum_cons, sum_lens T, rdg_cons, List.length_append]
    omega
theorem pos_lens {T : List (List Int)} (h : STab T) : ∀ x ∈ T.map List.length, 0 < x := fun x hx => by
  obtain ⟨r, hr, rfl⟩ := List.mem_map.mp hx
  exact len_pos (STab.ne h r hr)
theorem nD_lens (T : List (List Int)) : iD (T.map fun r => (r.length : Int)) = nD (T.map List.length) := by
  unfold nD
  rw [List.map_map]
  rfl
theorem true_k07 (ns : List Int) (hl : ns.length ≤ 63) : f_law_k07 (.scr ns) = .rt (.bl true) := by
  unfold f_law_k07
  obtain ⟨row, er, hr0, hnd⟩ := row_by_ok hl (b := 40) (by omega) (by omega)
  have er : f_law_row_by (.scr ns) (.int 40) = .rt (iD row) := er
  have hld := law_laid_eq (row := row) (by omega)
  obtain ⟨hp0, hpm⟩ := laid_pair row hnd
  have hP := hp0.p
  have hPn := hp0.pn
  have hlen := hp0.lens.2
  simp only [Rs.bind_nx, er, callN_rt, hld, show itemAt 0 (D.tup [rD (laidP row).1, rD (laidP row).2]) = .nx (rD (laidP row).1) from rfl, Rs.to_nx]
  generalize (laidP row).1 = P at *
  clear hp0 hld
  have hPl := stab_len (STab.ne hP)
  obtain ⟨Q, hQ, hc, hql⟩ := filling_ok (ns := ns) (ls := P.map List.length) hl (pos_lens hP) (anti_lens hP) (by rw [sum_lens]; omega) (by simp; omega)
  rw [sum_lens, hlen] at hc
  have pr : Pair row.length P Q := ⟨hP, hPn, hc.q, hc.qp, lens_rowL hql.symm⟩
  have hqn : (rdg Q).length = row.length := by rw [hc.qp.length_eq, onesN_len]
  have hQl := stab_len (STab.ne hc.q)
  have e3 := taken_eq (P := P) (Q := Q) (by omega) pr.good
  rw [hlen] at e3
  have hpr : ∀ r ∈ P, r.length ≤ 900 := fun r hr => by have := rdg_len hr; omega
  have hqr : ∀ r ∈ Q, r.length ≤ 900 := fun r hr => by have := rdg_len hr; omega
  have l4 := copy_rD (rows := P) (by omega)
  have l5 := copy_rD (rows := Q) (by omega)
  simp only [Rs.bind_nx] at l4 l5
  have e5 := rows_refl_i (rows := P) (by omega) (fun r hr => by have := hpr r hr; omega)
  have e6 := rows_refl_i (rows := Q) (by omega) (fun r hr => by have := hqr r hr; omega)
  have hlaid := pr.laid
  have hF : (takenS Q row.length P).length = row.length := takenS_len _ _
  generalize hG : (takenS Q row.length P).reverse = F at *
  have hFl : F.length = row.length := by rw [← hG, List.length_reverse, hF]
  have e7 := row_refl (xs := F) (by omega)
  have hld2 := law_laid_eq (row := F) (by omega)
  rw [hlaid] at hld2
  simp only [lens_rD (T := P) (by omega), nD_lens, Rs.bind_nx, hQ, callN_rt, Rs.to_nx, l4, l5, tup2, ixD_tup0, ixD_tup1, e3, callX_rt, e5, e6, asB_bl, Bool.not_true, Bool.false_eq_true, if_false, Out.bind_nx, lstD_nil, seqD_lst]
  refine forL_then (P := fun o => o = .rt (.bl true)) (fun (k : Nat) (s : D) => s = iD (P.take k).flatten) rfl ?_ ?_
  · rintro k d s hd rfl
    obtain ⟨hk, rfl⟩ := map_get hd
    have c1 := catD_iD (a := (P.take k).flatten) (b := P[k]) (by have := flat_len (T := P) k; have := hpr _ (List.getElem_mem hk); omega)
    refine ⟨_, ?_, rfl⟩
    simp only [c1, Rs.to_nx, flat_take hk]
  · rintro s rfl
    rw [List.length_map, List.take_length]
    have n2 : P.flatten.length = row.length := by rw [(flat_perm P).length_eq, hlen]
    have hlp : (laidP F).1 = P := by rw [hlaid]
    have s2 : sortI F = sortI P.flatten := by
      refine sortI_eq ?_
      have := kn_rdg F
      rw [← laidP_layW, hlp] at this
      exact this.perm.trans (flat_perm P).symm
    simp only [isi_list, ofB_some, Rs.bind_nx, asB_bl, Bool.not_true, Bool.false_eq_true, if_false, lenD_lst, List.length_map, neO_int, ofO_some, hFl, n2, decide_true, e7, callN_rt, in_non, Rs.to_nx, Out.bind_nx, sortedD_iD (ns := F) (by omega), sortedD_iD (ns := P.flatten) (by omega), neO_iD, s2, hld2, ixD_tup0, ixD_tup1, e5, e6, andD]
end Sw

/- part K05 -/
namespace Sw
open PySem L2
theorem pow9 : powD (.int 10) (.int 9) = .nx (.int 1000000000) := by
  show (if (decide ((0 : Int) ≤ 9) && (decide ((9 : Int) ≤ 1000000) && decide ((10 : Int).natAbs < 2 ^ 64))) = true then Rs.nx (D.int ((10 : Int) ^ (9 : Int).toNat)) else .err) = _
  rw [if_pos (by decide)]
  rfl
theorem tried_no {T : List (List Int)} {a : Int} (h : f_is_corner (rD T) (.int a) = .rt (.bl false)) : f_law_tried (rD T) (.int a) = .rt (.tup [.bl true, .non]) := by
  unfold f_law_tried
  simp only [Rs.bind_nx, take_no h, callX_exc, Rs.to_exc, tryD_exc, decide_true, andD, tup2, Rs.to_nx, noX_rt]
  rfl
theorem tried_yes {T : List (List Int)} {i : Nat} (h : STab T) (hn : (rdg T).Nodup) (hc : Corner T i) (hl : T.length ≤ 500) (hr : ∀ r ∈ T, r.length ≤ 900) :
    f_law_tried (rD T) (.int (i : Int)) = .rt (.tup [.non, .tup [rD (takeO T i).1, .int (takeO T i).2]]) := by
  unfold f_law_tried
  have : full? 4 (.tup [.non, .tup [rD (takeO T i).1, .int (takeO T i).2]]) = .nx (.tup [.non, .tup [rD (takeO T i).1, .int (takeO T i).2]]) := by
    unfold full?
    rw [if_pos]
    have h2 := full2_rDi_of (takeO T i).1
    simp only [full, List.all_cons, List.all_nil, Bool.and_true, D.atom] at h2 ⊢
    simpa using h2
  simp only [Rs.bind_nx, take_out_eq h hn hc hl hr, callX_rt, Rs.to_nx, tryD_nx, Out.bind_nx, this]
where full2_rDi_of (rows : List (List Int)) : full 2 (rD rows) = true := full2_rD rows
theorem corner_lens {T : List (List Int)} (h : STab T) {i : Nat} (hi : i < T.length) : Corner T i ↔ ¬ rowL T (i + 1) = rowL T i := by
  have := STab.le i h
  unfold Corner
  omega
theorem true_k05 (ns : List Int) (hl : ns.length ≤ 63) : f_law_k05 (.scr ns) = .rt (.bl true) := by
  unfold f_law_k05
  obtain ⟨row, er, hr0, hnd⟩ := row_by_ok hl (b := 40) (by omega) (by omega)
  have er : f_law_row_by (.scr ns) (.int 40) = .rt (iD row) := er
  have hld := law_laid_eq (row := row) (by omega)
  obtain ⟨hp0, hpm⟩ := laid_pair row hnd
  have hP := hp0.p
  have hPn := hp0.pn
  have hlen := hp0.lens.2
  simp only [Rs.bind_nx, er, callN_rt, hld, show itemAt 0 (D.tup [rD (laidP row).1, rD (laidP row).2]) = .nx (rD (laidP row).1) from rfl, Rs.to_nx]
  generalize (laidP row).1 = P at *
  clear hp0 hld
  have hPl := stab_len (STab.ne hP)
  have hpr : ∀ r ∈ P, r.length ≤ 40 := fun r hr => by have := rdg_len hr; omega
  have hd1 := drawn_eq hl (k := 400) (by omega) (by omega) (m := (P.length : Int) + 4) (by omega)
  have hd2 := drawn_eq hl (k := 401) (by omega) (by omega) (m := 6) (by omega)
  have hd3 := drawn_eq hl (k := 402) (by omega) (by omega) (m := 2) (by omega)
  have hd4 := drawn_nn ns 402 (m := 2) (by omega)
  have hd5 := drawn_lt ns 402 (m := 2) (by omega)
  simp only [lenD_lst, List.length_map, Rs.bind_nx, intD_int, hd1, hd2, hd3, callN_rt, Rs.to_nx, eqO_int, ofO_some, pow9, negD_i, lstD_2]
  obtain ⟨a, ha⟩ : ∃ a : Int, (if decide (drawn ns 401 6 = 1) = true then (((ixD (.lst [.int 1000000000, .int (-1000000000)]) (.int (drawn ns 402 2))).bind fun x33 => intD (· + ·) x33 (.int (drawn ns 400 ((P.length : Int) + 4) - 2))).to fun v => (Out.nx v : Out Unit D)) else Out.nx (.int (drawn ns 400 ((P.length : Int) + 4) - 2))) = .nx (.int a) := by
    by_cases c : drawn ns 401 6 = 1
    · simp only [c, decide_true, if_true]
      have : drawn ns 402 2 = 0 ∨ drawn ns 402 2 = 1 := by omega
      rcases this with e | e
      · exact ⟨1000000000 + (drawn ns 400 ((P.length : Int) + 4) - 2), by rw [e]; simp⟩
      · exact ⟨-1000000000 + (drawn ns 400 ((P.length : Int) + 4) - 2), by rw [e]; simp⟩
    · exact ⟨_, by simp [c]; rfl⟩
  simp only [ha, Out.bind_nx]
  have l4 := copy_rD (rows := P) (by omega)
  simp only [Rs.bind_nx] at l4
  have e5 := rows_refl_i (rows := P) (by omega) (fun r hr => by have := hpr r hr; omega)
  have hcat := catD_iD (a := P.map fun r => (r.length : Int)) (b := [0]) (by simp; omega)
  have hcat : catD (iD (P.map fun r => (r.length : Int))) (.lst [.int 0]) = .nx (iD ((P.map fun r => (r.length : Int)) ++ [0])) := hcat
  simp only [l4, Rs.to_nx, Rs.bind_nx, e5, lens_rD (T := P) (by omega), lstD_1, hcat, ltO_int, geO_int, ofO_some]
  have hno : (a < 0 ∨ (P.length : Int) ≤ a ∨ ∃ i : Nat, a = i ∧ i < P.length ∧ ¬ Corner P i) ∨ ∃ i : Nat, a = i ∧ Corner P i := by
    by_cases c1 : a < 0
    · exact .inl (.inl c1)
    · by_cases c2 : (P.length : Int) ≤ a
      · exact .inl (.inr (.inl c2))
      · by_cases c3 : Corner P a.toNat
        · exact .inr ⟨a.toNat, by omega, c3⟩
        · exact .inl (.inr (.inr ⟨a.toNat, by omega, by omega, c3⟩))
  have hix : ∀ i : Nat, i ≤ P.length → ixD (iD ((P.map fun r => (r.length : Int)) ++ [0])) (.int (i : Int)) = .nx (.int (rowL P i : Int)) := fun i hi => by
    rw [ixD_iD (by simp; omega)]
    congr 2
    rw [List.getElem_append]
    split
    · rename_i h
      rw [List.getElem_map, rowL_at (by simpa using h)]
    · rename_i h
      simp at h
      rw [rowL_out h]
      simp
  rcases hno with hno | ⟨i, rfl, hc⟩
  · have hcor : f_is_corner (rD P) (.int a) = .rt (.bl false) := by
      rcases hno with h | h | ⟨i, rfl, hi, h⟩
      · exact corner_out (.inl h)
      · exact corner_out (.inr h)
      · rw [corner_eq (STab.ne hP) hi]
        simp [h]
    have hcond : (if decide (a < 0) = true then (Rs.nx true : Rs Bool) else (if decide ((P.length : Int) ≤ a) = true then Rs.nx true else ((ixD (iD ((P.map fun r => (r.length : Int)) ++ [0])) (.int (a + 1))).bind fun x57 => (ixD (iD ((P.map fun r => (r.length : Int)) ++ [0])) (.int a)).bind fun x58 => ofO (eqO x57 x58)))) = .nx true := by
      rcases hno with h | h | ⟨i, rfl, hi, h⟩
      · simp [h]
      · by_cases c : a < 0
        · simp [c]
        · simp [c, h]
      · have e1 : ¬ ((i : Int) < 0) := by omega
        have e2 : ¬ ((P.length : Int) ≤ (i : Int)) := by omega
        have e3 : (i : Int) + 1 = ((i + 1 : Nat) : Int) := by omega
        have e4 : rowL P (i + 1) = rowL P i := by
          by_cases c : rowL P (i + 1) = rowL P i
          · exact c
          · exact absurd ((corner_lens hP hi).mpr c) h
        simp only [e1, e2, decide_false, Bool.false_eq_true, if_false, e3, hix (i + 1) (by omega), hix i (by omega), Rs.bind_nx, eqO_int, ofO_some, e4, decide_true]
    simp only [tried_no hcor, callN_rt, Rs.to_nx, asB_bl, Rs.bind_nx, Bool.not_true, Bool.false_eq_true, if_false, Out.bind_nx]
    try simp only [Rs.bind_nx] at hcond
    simp only [intD_int, Rs.bind_nx]
    simp only [hcond, Rs.to_nx, if_true, ixD_tup0, Rs.bind_nx, isB, ofB_some, decide_true, Out.bind_rt]
  · have hi := corner_lt hc
    have tk := takeO_ok hP hPn hc
    have ht := tried_yes hP hPn hc (by omega) (fun r hr => by have := hpr r hr; omega)
    have e1 : ¬ ((i : Int) < 0) := by omega
    have e2 : ¬ ((P.length : Int) ≤ (i : Int)) := by omega
    have e3 : (i : Int) + 1 = ((i + 1 : Nat) : Int) := by omega
    have e4 : ¬ ((rowL P (i + 1) : Int) = (rowL P i : Int)) := by have := (corner_lens hP hi).mp hc; omega
    simp only [ht, callN_rt, Rs.to_nx, asB_bl, Rs.bind_nx, Bool.not_true, Bool.false_eq_true, if_false, Out.bind_nx, e1, e2, decide_false, intD_int, e3, hix (i + 1) (by omega), hix i (by omega), eqO_int, ofO_some, e4]
    generalize hT : (takeO P i).1 = T at *
    generalize hN : (takeO P i).2 = x at *
    have hTl := stab_len (STab.ne tk.tab)
    have hTr := tk.perm.length_eq
    simp only [List.length_cons] at hTr
    have htr : ∀ r ∈ T, r.length ≤ 40 := fun r hr => by have := rdg_len hr; omega
    have h0 : holeAt 1 (.tup [.non, .tup [rD T, .int x]]) = .tup [.non, .hole] := rfl
    have h1 : itemAt 1 (.tup [.non, .tup [rD T, .int x]]) = .nx (.tup [rD T, .int x]) := rfl
    have h2 : itemAt 0 (.tup [rD T, .int x]) = .nx (rD T) := rfl
    simp only [h0, h1, Rs.to_nx, ixD_tup0, ixD_tup1, Rs.bind_nx, isntO, isO, isN, Option.map_some, Bool.not_true, ofO_some, Bool.false_eq_true, if_false, isi_tuple, isi_list, ofB_some, asB_bl, lenD_tup, List.length_cons, List.length_nil, neO_int, whole_int, callN_rt, Out.bind_nx, seqD_lst]
    simp only [show decide (((0 + 1 + 1 : Nat) : Int) = 2) = true from rfl, Bool.not_true, Bool.false_eq_true, if_false, Rs.to_nx, Rs.bind_nx, Out.bind_nx]
    rw [forL_unit]
    · simp only [Out.bind_nx, lstD_nil, Rs.to_nx]
      refine forL_then (P := fun o => o = .rt (.bl true)) (fun (k : Nat) (s : D) => s = iD (rdg (T.take k))) rfl ?_ ?_
      · rintro k d s hd rfl
        obtain ⟨hk, rfl⟩ := map_get hd
        have hs : (rdg (T.take (k + 1))) = T[k] ++ rdg (T.take k) := by rw [List.take_succ_eq_append_getElem hk, rdg_snoc]
        have hsl : (rdg (T.take k)).length ≤ (rdg T).length := by
          have e : T = T.take k ++ T.drop k := (List.take_append_drop k T).symm
          have : ∀ A B : List (List Int), (rdg A).length ≤ (rdg (A ++ B)).length := fun A B => by
            rw [rdg_rev, rdg_rev, List.reverse_append, List.flatten_append, List.length_append]
            omega
          have := this (T.take k) (T.drop k)
          rwa [← e] at this
        have c1 := catD_iD (a := T[k]) (b := rdg (T.take k)) (by have := htr _ (List.getElem_mem hk); omega)
        refine ⟨_, ?_, rfl⟩
        simp only [c1, Rs.to_nx, hs]
      · rintro s rfl
        rw [List.length_map, List.take_length]
        have q1 := law_laid_eq (row := rdg T) (by omega)
        have q2 : (laidP (rdg T)).1 = T := by rw [laidP_layW]; exact lay_rdg tk.tab.tab
        rw [q2] at q1
        have q3 := rows_refl_i (rows := T) (by omega) (fun r hr => by have := htr r hr; omega)
        have q4 := law_lay_eq (rows := T) x (by omega) (fun r hr => by have := htr r hr; omega) (Tab.ups tk.tab.tab)
        rw [tk.lay] at q4
        have q5 := appAll_rD (rows := T) (fun r hr => by have := htr r hr; omega)
        simp only [Rs.bind_nx, q1, callN_rt, ixD_tup0, q3, asB_bl, Bool.not_true, Rs.to_nx, Bool.false_eq_true, if_false, Out.bind_nx, q4, h2, q5, ixD_tup1, eqO_int, ofB_some, decide_true, andD, e5]
    · intro d hd
      obtain ⟨r, hr, rfl⟩ := List.mem_map.mp hd
      have hz : ¬ ((r.length : Int) = 0) := by have := len_pos (STab.ne tk.tab r hr); omega
      simp only [isi_list, ofB_some, Rs.bind_nx, asB_bl, Bool.not_true, Bool.false_eq_true, if_false, lenD_lst, List.length_map, eqO_int, ofO_some, hz, decide_false, row_refl (xs := r) (by have := htr r hr; omega), callN_rt, Rs.to_nx, Out.bind_nx]
end Sw

/- part PlEq -/
/-! == of data as a whole; lists that know their address. -/
namespace Sw
open PySem L2
structure Shp (n : Nat) (d : D) : Prop where
  can : (toP d).canLay0 = true
  dep : (toP d).depth ≤ n
theorem shp_int {n : Nat} (i : Int) : Shp n (.int i) := ⟨by simp [toP, PyData.canLay0], by simp [toP, PyData.depth]⟩
theorem shp_non {n : Nat} : Shp n .non := ⟨by simp [toP, PyData.canLay0], by simp [toP, PyData.depth]⟩
theorem shp_bl {n : Nat} (b : Bool) : Shp n (.bl b) := ⟨by simp [toP, PyData.canLay0], by simp [toP, PyData.depth]⟩
theorem can_all : ∀ ds : List D, (∀ d ∈ ds, (toP d).canLay0 = true) → PyData.canLayAll0 (ds.map toP) = true
  | [], _ => by simp [PyData.canLayAll0]
  | d :: ds, h => by
    rw [List.map_cons, PyData.canLayAll0, h d (.head _), can_all ds fun x hx => h x (.tail _ hx)]
    rfl
theorem dep_all {n : Nat} : ∀ ds : List D, (∀ d ∈ ds, (toP d).depth ≤ n) → PyData.depthAll (ds.map toP) ≤ n
  | [], _ => by simp [PyData.depthAll]
  | d :: ds, h => by
    have h1 := h d (.head _)
    have h2 := dep_all ds fun x hx => h x (.tail _ hx)
    rw [List.map_cons, PyData.depthAll]
    omega
theorem shp_lst {n : Nat} {ds : List D} (h : ∀ d ∈ ds, Shp n d) : Shp (n + 1) (.lst ds) := by
  have h2 := dep_all ds fun d hd => (h d hd).dep
  refine ⟨?_, ?_⟩
  · rw [toP, toPs_map, PyData.canLay0]
    exact can_all ds fun d hd => (h d hd).can
  · rw [toP, toPs_map, PyData.depth]
    omega
theorem shp_tup {n : Nat} {ds : List D} (h : ∀ d ∈ ds, Shp n d) : Shp (n + 1) (.tup ds) := by
  have h2 := dep_all ds fun d hd => (h d hd).dep
  refine ⟨?_, ?_⟩
  · rw [toP, toPs_map, PyData.canLay0]
    exact can_all ds fun d hd => (h d hd).can
  · rw [toP, toPs_map, PyData.depth]
    omega
theorem Shp.sh {n : Nat} {d : D} (h : Shp n d) (hn : n ≤ 64 := by decide) : SeqAt.shaped (toP d) = true := by
  have := h.dep
  unfold SeqAt.shaped
  rw [h.can, Bool.true_and, decide_eq_true_eq]
  omega
theorem eqO_same {n : Nat} {d : D} (h : Shp n d) (hn : n ≤ 64 := by decide) : eqO d d = some true := by
  unfold eqO
  rw [if_pos ⟨h.sh hn, h.sh hn⟩, SeqAt.eqv_refl _ h.can]
theorem neO_same {n : Nat} {d : D} (h : Shp n d) (hn : n ≤ 64 := by decide) : neO d d = some false := by
  unfold neO
  rw [eqO_same h hn]
  rfl
theorem shp_iD (ns : List Int) : Shp 1 (iD ns) := shp_lst fun d hd => by
  obtain ⟨i, _, rfl⟩ := List.mem_map.mp hd
  exact shp_int i
theorem shp_rD (T : List (List Int)) : Shp 2 (rD T) := shp_lst fun d hd => by
  obtain ⟨i, _, rfl⟩ := List.mem_map.mp hd
  exact shp_iD i
abbrev bD (bs : List Bool) : D := .lst (bs.map .bl)
theorem shp_bD (bs : List Bool) : Shp 1 (bD bs) := shp_lst fun d hd => by
  obtain ⟨i, _, rfl⟩ := List.mem_map.mp hd
  exact shp_bl i
/-! lists that know their address -/
theorem idxD_pin {b : Addr} {ds : List D} {j : Nat} (h : j < ds.length) : idxD (.pin b ds) (.int (j : Int)) = .nx j := by
  show (match ixN ds.length (j : Int) with | some j => Rs.nx j | none => .err) = _
  rw [ixN_nat h]
theorem edD_setP {b : Addr} {ds es : List D} {x : D} {j k : Nat} (h : ds[j]? = some (.lst es)) (h2 : k < es.length) : edD (some j) (setL (.int (k : Int)) x) (.pin b ds) = .nx (.pin b (ds.set j (.lst (es.set k x)))) := by
  unfold edD
  simp only [plGet, h, setL_ok h2, Rs.bind_nx, plPut]
theorem popAtD_pin {b : Addr} {ds : List D} {j : Nat} (h : j < ds.length) : popAtD (.pin b ds) (.int (j : Int)) = .pin b (ds.eraseIdx j) := by
  show (match ixN ds.length (j : Int) with | some m => D.pin b (ds.eraseIdx m) | none => _) = _
  rw [ixN_nat h]
theorem itemOf_pin {b : Addr} {ds : List D} {j : Nat} (h : j < ds.length) (hl : ds.length ≤ 16777216) : itemOf (.pin b ds) (.int (j : Int)) = .nx ds[j] := by
  show (match ixN ds.length (j : Int) with | some m => if ds.length ≤ sizeLine then (match ds[m]? with | some y => Rs.nx y | none => .err) else .err | none => .err) = _
  rw [ixN_nat h]
  simp only [List.getElem?_eq_getElem h]
  rw [if_pos (by rw [szl]; exact hl)]
theorem insL_ok {ds : List D} {x : D} {k : Nat} (h : ds.length < 16777216) (hk : k < 1000000) : insL (.int (k : Int)) x ds = .nx (ds.take k ++ [x] ++ ds.drop k) := by
  show (if ds.length < sizeLine ∧ 0 ≤ (k : Int) ∧ (k : Int) < 2 ^ 63 then Rs.nx _ else .err) = _
  rw [if_pos ⟨by rw [szl]; exact h, by omega, by omega⟩]
  simp
theorem insP_pin {b : Addr} {ds : List D} {x : D} {j k : Nat} (h : j < ds.length) (hl : ds.length < 16777216) (hk : k < 1000000) : insP (.pin b ds) (.pin b (ds.eraseIdx j)) (.nx (.int (k : Int))) (.nx x) = .nx (.pin b ((ds.eraseIdx j).take k ++ [x] ++ (ds.eraseIdx j).drop k)) := by
  unfold insP edD
  simp only [plGet, Rs.bind_nx, plPut]
  rw [insL_ok (by rw [List.length_eraseIdx]; split <;> omega) hk]
  rfl
theorem insD_pin {b : Addr} {ds : List D} {x : D} {k : Nat} (hl : ds.length < 16777216) (hk : k < 1000000) : insD none (.pin b ds) (.nx (.int (k : Int))) (.nx x) = .nx (.pin b (ds.take k ++ [x] ++ ds.drop k)) := by
  unfold insD
  simp only [plGet, Rs.bind_nx, plPut, insL_ok hl hk]
theorem popInD_pin {b : Addr} {ds es : List D} {j : Nat} (h : ds[j]? = some (.lst es)) : popInD (.pin b ds) (.int (j : Int)) = .pin b (ds.set j (.lst es.dropLast)) := by
  have hj : j < ds.length := by
    by_cases c : j < ds.length
    · exact c
    · rw [List.getElem?_eq_none (by omega)] at h; cases h
  unfold popInD
  rw [idxD_pin hj]
  simp only [plGet, h, plPut]
theorem lastInD_pin {b : Addr} {ds es : List D} {j : Nat} {y : D} (h : ds[j]? = some (.lst es)) (h2 : es[es.length - 1]? = some y) : lastInD (.pin b ds) (.int (j : Int)) = .nx y := by
  have hj : j < ds.length := by
    by_cases c : j < ds.length
    · exact c
    · rw [List.getElem?_eq_none (by omega)] at h; cases h
  unfold lastInD
  rw [idxD_pin hj]
  simp only [plGet, h, h2]
end Sw

/- part PlSp -/
/-! k08: what the law itself looks at; stairs spoilt in place. -/
namespace Sw
open PySem L2
def rowOk (T : List (List Int)) (k : Nat) : Bool := (decide (0 < rowL T k) && (decide (k = 0) || decide (rowL T k ≤ rowL T (k - 1)))) && (List.range (rowL T k)).all (cellB T k)
theorem stairs_rows {T : List (List Int)} : STab T ↔ ∀ k < T.length, rowOk T k = true := by
  rw [stab_iff]
  unfold shpB cellsB rowOk
  simp only [List.length_map, all_range, rowL_lens, Bool.and_eq_true]
  constructor
  · exact fun h k hk => ⟨h.1 k hk, h.2 k hk⟩
  · exact fun h => ⟨fun k hk => (h k hk).1, fun k hk => (h k hk).2⟩
theorem law_stairs_eq {T : List (List Int)} (hl : (rdg T).length ≤ 900) (hT : T.length ≤ 900) : f_law_stairs_k08 (rD T) = .rt (.bl (decide (Stairs T))) := by
  unfold f_law_stairs_k08
  have hlr : ∀ r ∈ T, r.length ≤ 900 := fun r hr => by have := rdg_len hr; omega
  simp only [Rs.bind_nx, lstD_nil, Rs.to_nx, lenD_lst, List.length_map, rngD1_len (show T.length ≤ 16777216 by omega)]
  refine forU_ret (P := fun o => o = .rt (.bl (decide (Stairs T)))) (fun k s => s = iD (T.take k).flatten ∧ ∀ i < k, rowOk T i = true) ⟨rfl, fun i hi => by omega⟩ ?_ ?_
  · rintro k s hk ⟨rfl, hok⟩
    have hrow := hlr _ (List.getElem_mem hk)
    have no : rowOk T k = false → decide (Stairs T) = false := fun h => by
      rw [decide_eq_false_iff_not]
      intro hs
      rw [stairs_rows.mp hs.1 k hk] at h
      cases h
    simp only [ixD_rD hk, Rs.bind_nx, Rs.to_nx, lenD_lst, List.length_map, eqO_int, ofO_some, gtO_int]
    have hfirst : (if decide ((T[k].length : Int) = 0) = true then (Rs.nx true : Rs Bool) else (if decide ((0 : Int) < (k : Int)) = true then (((intD (· - ·) (.int (k : Int)) (.int 1)).bind fun x24 => ixD (rD T) x24).bind fun x25 => lenD [x25]).bind fun x27 => ofO (ltO x27 (.int (T[k].length : Int))) else Rs.nx false)) =
        .nx (!(decide (0 < rowL T k) && (decide (k = 0) || decide (rowL T k ≤ rowL T (k - 1))))) := by
      rw [rowL_at hk]
      by_cases c0 : T[k].length = 0
      · simp [c0]
      · have c0' : ¬ ((T[k].length : Int) = 0) := by omega
        have c0'' : 0 < T[k].length := by omega
        simp only [c0', c0'', decide_false, decide_true, Bool.false_eq_true, if_false, Bool.true_and]
        by_cases c : k = 0
        · subst c; simp
        · have e1 : (0 : Int) < (k : Int) := by omega
          have e2 : (k : Int) - 1 = ((k - 1 : Nat) : Int) := by omega
          have hk1 : k - 1 < T.length := by omega
          simp only [e1, decide_true, if_true, intD_int, Rs.bind_nx, e2, ixD_rD hk1, lenD_lst, List.length_map, ltO_int, ofO_some, c, decide_false, Bool.false_or]
          rw [rowL_at hk1]
          congr 1
          by_cases c2 : T[k].length ≤ T[k - 1].length
          · have : ¬ ((T[k - 1].length : Int) < T[k].length) := by omega
            simp [c2, this]
          · have : ((T[k - 1].length : Int) < T[k].length) := by omega
            simp [c2, this]
    try simp only [Rs.bind_nx] at hfirst
    cases hA : (decide (0 < rowL T k) && (decide (k = 0) || decide (rowL T k ≤ rowL T (k - 1)))) with
    | false =>
      right
      rw [hA] at hfirst
      refine ⟨.bl false, ?_, ?_⟩
      · simp only [hfirst, Bool.not_false, Rs.to_nx, if_true, Out.bind_rt]
      · rw [no (by unfold rowOk; rw [hA]; rfl)]
    | true =>
      rw [hA] at hfirst
      have hAB := hA
      simp only [Bool.and_eq_true, Bool.or_eq_true, decide_eq_true_eq] at hAB
      have hin : ∀ j < T[k].length, (if decide ((0 : Int) < (j : Int)) = true then ((intD (· - ·) (.int (j : Int)) (.int 1)).bind fun x58 => ixD (iD T[k]) x58).bind fun x61 => (ixD (iD T[k]) (.int (j : Int))).bind fun x62 => ofO (geO x61 x62) else Rs.nx false : Rs Bool) = .nx (!(decide (j = 0) || decide (cell T k (j - 1) < cell T k j))) := fun j hj => by
        by_cases c : j = 0
        · subst c; simp
        · have e1 : (0 : Int) < (j : Int) := by omega
          have e2 : (j : Int) - 1 = ((j - 1 : Nat) : Int) := by omega
          simp only [e1, decide_true, if_true, intD_int, Rs.bind_nx, e2, ixD_cell hk (show j - 1 < T[k].length by omega), ixD_cell hk hj, geO_int, ofO_some, c, decide_false, Bool.false_or]
          congr 1
          by_cases c2 : cell T k (j - 1) < cell T k j
          · have : ¬ cell T k j ≤ cell T k (j - 1) := by omega
            simp [c2, this]
          · have : cell T k j ≤ cell T k (j - 1) := by omega
            simp [c2, this]
      have hin2 : ∀ j < T[k].length, (if decide ((0 : Int) < (k : Int)) = true then (((intD (· - ·) (.int (k : Int)) (.int 1)).bind fun x45 => ixD (rD T) x45).bind fun x46 => ixD x46 (.int (j : Int))).bind fun x50 => (ixD (iD T[k]) (.int (j : Int))).bind fun x51 => ofO (geO x50 x51) else Rs.nx false : Rs Bool) = .nx (!(decide (k = 0) || decide (cell T (k - 1) j < cell T k j))) := fun j hj => by
        by_cases c : k = 0
        · subst c; simp
        · have e1 : (0 : Int) < (k : Int) := by omega
          have e2 : (k : Int) - 1 = ((k - 1 : Nat) : Int) := by omega
          have hk1 : k - 1 < T.length := by omega
          have hle := hAB.2.resolve_left c
          rw [rowL_at hk, rowL_at hk1] at hle
          simp only [e1, decide_true, if_true, intD_int, Rs.bind_nx, e2, ixD_rD hk1, ixD_cell hk1 (show j < T[k - 1].length by omega), ixD_cell hk hj, geO_int, ofO_some, c, decide_false, Bool.false_or]
          congr 1
          by_cases c2 : cell T (k - 1) j < cell T k j
          · have : ¬ cell T k j ≤ cell T (k - 1) j := by omega
            simp [c2, this]
          · have : cell T k j ≤ cell T (k - 1) j := by omega
            simp [c2, this]
      try simp only [Rs.bind_nx] at hin
      try simp only [Rs.bind_nx] at hin2
      simp only [hfirst, Bool.not_true, Rs.to_nx, Bool.false_eq_true, if_false, Out.bind_nx, rngD1_len (show T[k].length ≤ 16777216 by omega)]
      rw [forL_chk (c := cellB T k)]
      · cases hB : (List.range T[k].length).all (cellB T k) with
        | false =>
          right
          refine ⟨.bl false, by simp, ?_⟩
          rw [no (by unfold rowOk; rw [hA, rowL_at hk, hB]; rfl)]
        | true =>
          left
          have hf := flat_len (T := T) k
          have c1 := catD_iD (a := (T.take k).flatten) (b := T[k]) (by omega)
          refine ⟨_, by simp only [if_true, Out.bind_nx, c1, Rs.to_nx, flat_take hk], rfl, fun i hi => ?_⟩
          rcases Nat.lt_or_eq_of_le (Nat.le_of_lt_succ hi) with h | h
          · exact hok i h
          · subst h
            unfold rowOk
            rw [hA, rowL_at hk, hB]
            rfl
      · intro j hj
        simp only [gtO_int, ofO_some, Rs.bind_nx, hin j hj, hin2 j hj]
        unfold cellB
        cases (decide (j = 0) || decide (cell T k (j - 1) < cell T k j)) <;> cases (decide (k = 0) || decide (cell T (k - 1) j < cell T k j)) <;> rfl
  · rintro s ⟨rfl, hok⟩
    have hst : STab T := stairs_rows.mpr hok
    have hp := flat_perm T
    have hfl := hp.length_eq
    have : Stairs T ↔ T.flatten.Nodup := ⟨fun h => hp.nodup_iff.mpr h.2, fun h => ⟨hst, hp.nodup_iff.mp h⟩⟩
    rw [List.take_length]
    simp only [Rs.bind_nx, setD_iD (ns := T.flatten) (by omega), lenD_lst, List.length_map, eqO_int, ofB_some, Rs.to_nx, set_eq, decide_eq_decide.mpr this]
theorem law_good_eq {P Q : List (List Int)} (hp : (rdg P).length ≤ 60) (hq : (rdg Q).length ≤ 60) (hP : P.length ≤ 900) (hQ : Q.length ≤ 900) : f_law_good_k08 (rD P) (rD Q) = .rt (.bl (decide (GoodPair P Q))) := by
  unfold f_law_good_k08
  simp only [Rs.bind_nx, law_stairs_eq (T := P) (by omega) hP, law_stairs_eq (T := Q) (by omega) hQ, callN_rt, asB_bl]
  by_cases c1 : Stairs P
  · by_cases c2 : Stairs Q
    · simp only [c1, c2, decide_true, Bool.not_true, Bool.false_eq_true, if_false, Rs.to_nx, Out.bind_nx, lens_rD (T := P) (by omega), lens_rD (T := Q) (by omega), Rs.bind_nx, neO_iD, ofO_some]
      by_cases c3 : P.map List.length = Q.map List.length
      · simp only [lens_iff.mpr c3, decide_true, Bool.not_true, Bool.false_eq_true, if_false, Out.bind_nx, lstD_nil, Rs.to_nx, seqD_lst]
        have hqr : ∀ r ∈ Q, r.length ≤ 60 := fun r hr => by have := rdg_len hr; omega
        refine forL_then (P := fun o => o = .rt (.bl (decide (GoodPair P Q)))) (fun (k : Nat) (s : D) => s = iD (Q.take k).flatten) rfl ?_ ?_
        · rintro k d s hd rfl
          obtain ⟨hk, rfl⟩ := map_get hd
          have c4 := catD_iD (a := (Q.take k).flatten) (b := Q[k]) (by have := flat_len (T := Q) k; have := hqr _ (List.getElem_mem hk); omega)
          exact ⟨_, by simp only [c4, Rs.to_nx, flat_take hk], rfl⟩
        · rintro s rfl
          have hpm := flat_perm Q
          have hfl := hpm.length_eq
          have hs : sortI Q.flatten = sortI (rdg Q) := sortI_eq hpm
          have hpq : (rdg P).length = (rdg Q).length := by rw [← sum_lens, ← sum_lens, c3]
          have hg : GoodPair P Q ↔ sortI (rdg Q) = onesN (rdg Q).length := by
            rw [← hpq]
            exact ⟨fun h => h.2.2.2, fun h => ⟨c1, c2, c3, h⟩⟩
          have hon := ones_comp (n := (rdg Q).length) (by omega)
          rw [List.length_map, List.take_length]
          simp only [Rs.bind_nx, sortedD_iD (ns := Q.flatten) (by omega), lenD_lst, List.length_map, hfl, rng1_int (j := ((rdg Q).length : Int)) (by omega) (by omega), Int.toNat_natCast, hon, eqO_iD, ofB_some, Rs.to_nx, hs, decide_eq_decide.mpr hg]
      · have c3' : ¬ (P.map fun r => (r.length : Int)) = (Q.map fun r => (r.length : Int)) := fun e => c3 (lens_iff.mp e)
        have : ¬ GoodPair P Q := fun h => c3 h.2.2.1
        simp [c3', this]
    · have : ¬ GoodPair P Q := fun h => c2 h.2.1
      simp [c1, c2, this]
  · have : ¬ GoodPair P Q := fun h => c1 h.1
    simp [c1, this]
end Sw

/- part K08 -/
namespace Sw
open PySem L2
theorem len_rdg (T : List (List Int)) : (rdg T).length = (T.map List.length).sum := (sum_lens T).symm
theorem perm_ins {α : Type} (l : List α) (x : α) (k : Nat) : (l.take k ++ [x] ++ l.drop k).Perm (x :: l) := by
  rw [List.append_assoc]
  refine ((List.Perm.append_left _ (List.perm_append_comm (l₁ := [x]))).trans ?_)
  rw [← List.append_assoc, List.take_append_drop]
  exact List.perm_append_singleton _ _
theorem perm_erase {α : Type} : ∀ {l : List α} {k : Nat} (h : k < l.length), (l[k] :: l.eraseIdx k).Perm l
  | a :: l, 0, _ => by simp
  | a :: l, k + 1, h => by
    have := perm_erase (l := l) (k := k) (by simpa using h)
    simp only [List.getElem_cons_succ, List.eraseIdx_cons_succ]
    exact (List.Perm.swap _ _ _).trans (this.cons a)
theorem er_map {α β : Type} (f : α → β) : ∀ (l : List α) (k : Nat), (l.map f).eraseIdx k = (l.eraseIdx k).map f
  | [], _ => by simp
  | a :: l, 0 => by simp
  | a :: l, k + 1 => by simp [er_map f l k]
theorem move_len {T : List (List Int)} {a o : Nat} (ha : a < T.length) : ((T.eraseIdx a).take o ++ [T[a]] ++ (T.eraseIdx a).drop o).Perm T := (perm_ins _ _ _).trans (perm_erase ha)
theorem spoilt08 {ns : List Int} {T : List (List Int)} {way : Int} (hl : ns.length ≤ 63) (h0 : 0 < T.length) (hT : T.length ≤ 100) (hne : ∀ r ∈ T, r ≠ []) (hr : ∀ r ∈ T, r.length ≤ 100) :
    ∃ T' : List (List Int), T'.length ≤ T.length + 1 ∧ (rdg T').length ≤ (rdg T).length ∧ ∀ b, f_law_spoilt_k08 (.scr ns) (.pin b (T.map iD)) (.int way) = .nx (.pin b (T'.map iD)) := by
  have e400 := drawn_eq hl (k := 400) (by omega) (by omega) (m := (T.length : Int)) (by omega)
  have e401 := drawn_eq hl (k := 401) (by omega) (by omega) (m := (T.length : Int)) (by omega)
  have a1 := drawn_nn ns 400 (m := (T.length : Int)) (by omega)
  have a2 := drawn_lt ns 400 (m := (T.length : Int)) (by omega)
  have o1 := drawn_nn ns 401 (m := (T.length : Int)) (by omega)
  have o2 := drawn_lt ns 401 (m := (T.length : Int)) (by omega)
  obtain ⟨a, ha⟩ : ∃ u : Nat, drawn ns 400 (T.length : Int) = (u : Int) := ⟨_, (Int.toNat_of_nonneg a1).symm⟩
  obtain ⟨o, ho⟩ : ∃ u : Nat, drawn ns 401 (T.length : Int) = (u : Int) := ⟨_, (Int.toNat_of_nonneg o1).symm⟩
  rw [ha] at e400 a2
  rw [ho] at e401 o2
  have hal : a < T.length := by omega
  have hrow := hr _ (List.getElem_mem hal)
  have hpos := len_pos (hne _ (List.getElem_mem hal))
  have hget : (T.map iD)[a]? = some (.lst (T[a].map D.int)) := by simp [hal]
  unfold f_law_spoilt_k08
  simp only [Rs.bind_nx, unpin_pin, lenD_lst, List.length_map, e400, e401, callN_rt, at_int, Rs.to_nx, eqO_int, ofO_some]
  have z01 : ¬ ((0 : Int) = 1) := by decide
  have z02 : ¬ ((0 : Int) = 2) := by decide
  have z03 : ¬ ((0 : Int) = 3) := by decide
  have z12 : ¬ ((1 : Int) = 2) := by decide
  have z13 : ¬ ((1 : Int) = 3) := by decide
  have z23 : ¬ ((2 : Int) = 3) := by decide
  by_cases w0 : way = 0
  · subst w0
    have e402 := drawn_eq hl (k := 402) (by omega) (by omega) (m := (T[a].length : Int)) (by omega)
    have j1 := drawn_nn ns 402 (m := (T[a].length : Int)) (by omega)
    have j2 := drawn_lt ns 402 (m := (T[a].length : Int)) (by omega)
    obtain ⟨j, hj⟩ : ∃ u : Nat, drawn ns 402 (T[a].length : Int) = (u : Int) := ⟨_, (Int.toNat_of_nonneg j1).symm⟩
    rw [hj] at e402 j2
    have hjl : j < T[a].length := by omega
    have e403 := drawn_eq hl (k := 403) (by omega) (by omega) (m := 7) (by omega)
    refine ⟨T.set a (T[a].set j (T[a][j] + drawn ns 403 7 - 3)), by simp, ?_, fun b => ?_⟩
    · rw [len_rdg, len_rdg, List.map_set, List.length_set]
      have := sum_set (l := T.map List.length) (j := a) (x := T[a].length) (by simpa using hal)
      rw [List.getD_eq_getElem?_getD, List.getElem?_map, List.getElem?_eq_getElem hal] at this
      simp only [Option.map_some, Option.getD_some] at this
      omega
    · have s1 := edD_setP (b := b) (x := .int (T[a][j] + drawn ns 403 7 - 3)) (k := j) hget (by simpa using hjl)
      have s2 := idxD_pin (b := b) (ds := T.map iD) (j := a) (by simpa using hal)
      simp only [decide_true, if_true, ixD_rD hal, Rs.bind_nx, lenD_lst, List.length_map, e402, callN_rt, at_int, Rs.to_nx, ixD_iD hjl, e403, intD_int, s2, s1, Out.bind_nx, z01, z02, z03, decide_false, Bool.false_eq_true, if_false]
      rw [List.map_set]
      show _ = Out.nx (D.pin b ((T.map iD).set a (.lst ((T[a].set j _).map D.int))))
      rw [List.map_set]
  · by_cases w1 : way = 1
    · subst w1
      refine ⟨(T.eraseIdx a).take o ++ [T[a]] ++ (T.eraseIdx a).drop o, ?_, ?_, fun b => ?_⟩
      · rw [(move_len hal).length_eq]; omega
      · rw [len_rdg, len_rdg, ((move_len (o := o) hal).map List.length).sum_nat]
        exact Nat.le_refl _
      · have s1 := popAtD_pin (b := b) (ds := T.map iD) (j := a) (by simpa using hal)
        have s2 := itemOf_pin (b := b) (ds := T.map iD) (j := a) (by simpa using hal) (by simp; omega)
        have s3 := insP_pin (b := b) (ds := T.map iD) (x := iD T[a]) (j := a) (k := o) (by simpa using hal) (by simp; omega) (by omega)
        rw [List.getElem_map] at s2
        simp only [w0, decide_false, Bool.false_eq_true, if_false, Out.bind_nx, decide_true, if_true, s1, s2, s3, Rs.to_nx, z12, z13]
        simp [List.map_take, List.map_drop, er_map]
    · by_cases w2 : way = 2
      · subst w2
        refine ⟨T.take a ++ [[]] ++ T.drop a, ?_, ?_, fun b => ?_⟩
        · rw [(perm_ins T [] a).length_eq, List.length_cons]; exact Nat.le_refl _
        · rw [len_rdg, len_rdg, ((perm_ins T [] a).map List.length).sum_nat]
          simp
        · have s1 := insD_pin (b := b) (ds := T.map iD) (x := .lst []) (k := a) (by simp; omega) (by omega)
          simp only [w0, w1, decide_false, Bool.false_eq_true, if_false, Out.bind_nx, decide_true, if_true, Rs.bind_nx, lstD_nil, s1, Rs.to_nx, z23]
          simp [List.map_take, List.map_drop]
      · by_cases w3 : way = 3
        · subst w3
          refine ⟨T.set a T[a].dropLast, by simp, ?_, fun b => ?_⟩
          · rw [len_rdg, len_rdg, List.map_set]
            have := sum_set (l := T.map List.length) (j := a) (x := T[a].dropLast.length) (by simpa using hal)
            rw [List.getD_eq_getElem?_getD, List.getElem?_map, List.getElem?_eq_getElem hal] at this
            simp only [Option.map_some, Option.getD_some, List.length_dropLast] at this ⊢
            omega
          · have s1 := popInD_pin (b := b) hget
            have s2 := lastInD_pin (b := b) (y := .int (T[a][T[a].length - 1])) hget (by simp [hpos])
            simp only [w0, w1, w2, decide_false, Bool.false_eq_true, if_false, Out.bind_nx, decide_true, if_true, s1, s2, Rs.to_nx]
            rw [List.map_set]
            show _ = Out.nx (D.pin b ((T.map iD).set a (.lst (T[a].dropLast.map D.int))))
            rw [List.map_dropLast]
        · exact ⟨T, by omega, Nat.le_refl _, fun b => by simp only [w0, w1, w2, w3, decide_false, Bool.false_eq_true, if_false, Out.bind_nx]⟩
theorem call08 {ns : List Int} {T T' : List (List Int)} {way : Int} (h : ∀ b, f_law_spoilt_k08 (.scr ns) (.pin b (T.map iD)) (.int way) = .nx (.pin b (T'.map iD))) : callIO 1 (fun r => f_law_spoilt_k08 (.scr ns) r (.int way)) (rD T) = .nx (rD T') := callIO_eq h (full2_rD T')
def due08 (g : Bool) : D := if g then .lst [] else bD [true, true, false, false, false, false]
theorem catD_at {a b : List D} (h : a.length + b.length ≤ 16777216) (ha : a.all D.atom = true) (hb : b.all D.atom = true) : catD (.lst a) (.lst b) = .nx (.lst (a ++ b)) := by
  show (if a.length + b.length ≤ sizeLine ∧ a.all D.atom = true ∧ b.all D.atom = true then Rs.nx (D.lst (a ++ b)) else .err) = _
  rw [if_pos ⟨by rw [szl]; exact h, ha, hb⟩]
theorem marks08 {P Q : List (List Int)} (hp : (rdg P).length ≤ 60) (hq : (rdg Q).length ≤ 60) (hP : P.length ≤ 900) (hQ : Q.length ≤ 900) : f_law_marks_k08 (rD P) (rD Q) = .rt (due08 (decide (GoodPair P Q))) := by
  unfold f_law_marks_k08
  by_cases c : GoodPair P Q
  · simp only [Rs.bind_nx, taken_eq hp c, callX_rt, Rs.to_nx, tryD_nx, Out.bind_nx, lstD_nil, due08, c, decide_true, if_true]
  · simp only [Rs.bind_nx, taken_no hp hq hP hQ c, callX_exc, Rs.to_exc, tryD_exc, due08, c, decide_false, Bool.false_eq_true, if_false]
    rw [if_pos (by decide)]
    have e1 : ¬ (("NoStairs" : Str) = "NoPair") := by decide
    have e2 : ¬ (("NoPlace" : Str) = "NoPair") := by decide
    have e3 : ¬ (("NoShape" : Str) = "NoPair") := by decide
    have e4 : ¬ (("NoNote" : Str) = "NoPair") := by decide
    simp only [decide_true, e1, e2, e3, e4, decide_false]
    rw [lstD_ok (by simp)]
    simp only [Rs.to_nx, lstD_2, Rs.bind_nx]
    rw [catD_at (by simp) (by rfl) (by rfl)]
    rfl
theorem due_shp (g : Bool) : Shp 1 (due08 g) := by
  cases g
  · exact shp_bD _
  · exact shp_bD []
theorem lists_eq {P Q : List (List Int)} : eqO (.tup [rD P, rD Q]) (.tup [rD P, rD Q]) = some true := eqO_same (n := 3) (shp_tup fun d hd => by
  simp only [List.mem_cons, List.not_mem_nil, or_false] at hd
  rcases hd with rfl | rfl
  · exact shp_rD P
  · exact shp_rD Q)
theorem filtD_map {α : Type} {c : D → Rs Bool} (e : α → D) (p : α → Bool) (xs : List α) (hl : xs.length ≤ 16777216) (h : ∀ x ∈ xs, c (e x) = .nx (p x)) : filtD c (.lst (xs.map e)) = .nx (.lst ((xs.filter p).map e)) := by
  have go : ∀ xs : List α, (∀ x ∈ xs, c (e x) = .nx (p x)) → filtL c (xs.map e) = some ((xs.filter p).map e) := by
    intro xs
    induction xs with
    | nil => intro _; rfl
    | cons x xs ih =>
      intro h
      rw [List.map_cons, filtL_cons, h x (.head _), List.filter_cons]
      have := ih fun y hy => h y (.tail _ hy)
      cases p x <;> simp [this]
  show (if (xs.map e).length ≤ sizeLine then ofL (filtL c (xs.map e)) else .err) = _
  rw [if_pos (by rw [szl, List.length_map]; exact hl), go xs h]
  rfl
/-- the lengths of the columns -/
def colL (T : List (List Int)) : List Nat := (List.range (rowL T 0)).map fun j => (T.filter fun q => decide (j < q.length)).length
theorem colL_trn {T : List (List Int)} : colL T = (trn T).map List.length := by
  cases T with
  | nil => rfl
  | cons r T =>
    unfold colL trn
    rw [List.map_map]
    apply List.map_congr_left
    intro j _
    simp
theorem true_k08 (ns : List Int) (hl : ns.length ≤ 63) : f_law_k08 (.scr ns) = .rt (.bl true) := by
  unfold f_law_k08
  obtain ⟨row0, er0, hr00, hnd0⟩ := row_by_ok hl (b := 9) (by omega) (by omega)
  have er0 : f_law_row_by (.scr ns) (.int 9) = .rt (iD row0) := er0
  have e404 := drawn_eq hl (k := 404) (by omega) (by omega) (m := 9) (by omega)
  simp only [Rs.bind_nx, er0, callN_rt, Rs.to_nx, lenD_lst, List.length_map, eqO_int, ofO_some, e404, at_int, lstD_1]
  obtain ⟨row, er, hr0, hr1, hnd⟩ : ∃ row : List Int, (if decide ((row0.length : Int) = 0) = true then (Out.nx (D.lst [D.int (drawn ns 404 9)]) : Out Unit D) else Out.nx (iD row0)) = .nx (iD row) ∧ row.length ≤ 9 ∧ 0 < row.length ∧ row.Nodup := by
    by_cases c : row0.length = 0
    · exact ⟨[drawn ns 404 9], by simp [c], by simp, by simp, by simp⟩
    · have c' : ¬ ((row0.length : Int) = 0) := by omega
      exact ⟨row0, by rw [if_neg (by rw [decide_eq_true_eq]; exact c')], by omega, by omega, hnd0⟩
  simp only [er, Out.bind_nx]
  have hld := law_laid_eq (row := row) (by omega)
  obtain ⟨hp0, hpm⟩ := laid_pair row hnd
  have hP := hp0.p
  have hPn := hp0.pn
  have hlen := hp0.lens.2
  have hlay := laidP_layW row
  have hcol : ((cols (laidP row).1).map List.length).sum = row.length ∧ STab (cols (laidP row).1) := by
    rw [hlay, ← lay_rev hnd, ← laidP_layW]
    have h2 := laid_pair row.reverse ((List.reverse_perm row).nodup_iff.mpr hnd)
    refine ⟨?_, h2.1.p⟩
    rw [sum_lens, h2.1.lens.2, List.length_reverse]
  simp only [hld, callN_rt, show itemAt 0 (D.tup [rD (laidP row).1, rD (laidP row).2]) = .nx (rD (laidP row).1) from rfl, Rs.to_nx, Rs.bind_nx]
  generalize (laidP row).1 = P at *
  clear hp0 hld
  have hPl := stab_len (STab.ne hP)
  have hP0 : 0 < P.length := by
    cases P with
    | nil => simp [rdg] at hlen; omega
    | cons r P => simp
  have hpr : ∀ r ∈ P, r.length ≤ 9 := fun r hr => by have := rdg_len hr; omega
  obtain ⟨Q0, hQ0, hc0, hql0⟩ := filling_ok (ns := ns) (ls := P.map List.length) hl (pos_lens hP) (anti_lens hP) (by rw [sum_lens]; omega) (by simp; omega)
  have hcl : (cols P).length ≤ 9 := by
    have := stab_len (STab.ne hcol.2)
    have h2 := hcol.1
    rw [sum_lens] at h2
    omega
  obtain ⟨Q1, hQ1, hc1, hql1⟩ := filling_ok (ns := ns) (ls := (cols P).map List.length) hl (pos_lens hcol.2) (anti_lens hcol.2) (by rw [hcol.1]; omega) (by simp; omega)
  have e405 := drawn_eq hl (k := 405) (by omega) (by omega) (m := 9) (by omega)
  have hcols : (compRg yes (fun d => ((filtD (fun d786 => (((Rs.nx d786).bind fun x787 => lenD [x787]).bind fun x788 => (Rs.nx d).bind fun x789 => ofO (gtO x788 x789))) (rD P)).bind fun x790 => lenD [x790])) (rowL P 0)) = .nx (nD (colL P)) := by
    unfold compRg upto
    rw [compD_map (fun (i : Nat) => D.int i) (fun _ => true) (fun j : Nat => D.int (((P.filter fun q => decide (j < q.length)).length : Nat) : Int)) (List.range (rowL P 0)) (by rw [List.length_range, rowL_at hP0]; have := hpr _ (List.getElem_mem hP0); omega) (fun _ _ => rfl) (fun i hi _ => ?_)]
    · rw [List.filter_eq_self.mpr (by simp)]
      simp [colL, Function.comp_def]
    · rw [filtD_map iD (fun q => decide (i < q.length)) P (by omega) (fun q _ => by simp)]
      simp
  rw [colL_trn, trn_cols hP.tab] at hcols
  have hix0 : ixD (rD P) (.int 0) = .nx (iD P[0]) := ixD_rD (rows := P) (j := 0) hP0
  have hr0 : rowL P 0 = P[0].length := rowL_at hP0
  rw [hr0] at hcols
  have hp0l := hpr _ (List.getElem_mem hP0)
  simp only [lens_rD (T := P) (by omega), nD_lens, Rs.bind_nx, hQ0, hQ1, callN_rt, Rs.to_nx, e405, at_int, eqO_int, ofO_some, hix0, lenD_lst, List.length_map, rng1_int (j := (P[0].length : Int)) (by omega) (by omega), Int.toNat_natCast] at hcols ⊢
  simp only [hcols, Rs.to_nx, hQ1, callN_rt, Rs.bind_nx]
  generalize drawn ns 405 9 = way
  obtain ⟨Q, hQ, hQl, hQn, hQd⟩ : ∃ Q : List (List Int), (if decide (way = 8) = true then (Out.nx (rD Q1) : Out Unit D) else Out.nx (rD Q0)) = .nx (rD Q) ∧ (rdg Q).length ≤ 9 ∧ (∀ r ∈ Q, r ≠ []) ∧ 0 < Q.length := by
    have pos : ∀ Q : List (List Int), (rdg Q).length = row.length → 0 < Q.length := fun Q h => by
      cases Q with
      | nil => simp [rdg] at h; omega
      | cons r Q => simp
    have l0 : (rdg Q0).length = row.length := by rw [hc0.qp.length_eq, onesN_len, sum_lens, hlen]
    have l1 : (rdg Q1).length = row.length := by rw [hc1.qp.length_eq, onesN_len, hcol.1]
    by_cases c : way = 8
    · exact ⟨Q1, by simp only [c, decide_true, if_true], by omega, STab.ne hc1.q, pos Q1 l1⟩
    · exact ⟨Q0, by simp only [c, decide_false, Bool.false_eq_true, if_false], by omega, STab.ne hc0.q, pos Q0 l0⟩
  simp only [hQ, Out.bind_nx, ltO_int, ofO_some, Rs.to_nx]
  have hQ9 := stab_len hQn
  have hqr : ∀ r ∈ Q, r.length ≤ 9 := fun r hr => by have := rdg_len hr; omega
  obtain ⟨A, B, hAB, a1, a2, b1, b2⟩ : ∃ A B : List (List Int), (if decide (way < 4) = true then (callIO 1 (fun x47 => f_law_spoilt_k08 (D.scr ns) x47 (D.int way)) (rD Q)).to fun second45 => (Out.nx (rD P, second45) : Out Unit (D × D))
        else (if decide (way < 7) = true then (((intD (fun x1 x2 => x1 - x2) (D.int way) (D.int 4)).bind at?).bind fun x54 => callIO 1 (fun x55 => f_law_spoilt_k08 (D.scr ns) x55 x54) (rD P)).to fun row8 => (Out.nx row8 : Out Unit D)
              else Out.nx (rD P)).bind fun s50 => Out.nx (s50, rD Q)) = .nx (rD A, rD B) ∧ A.length ≤ 12 ∧ (rdg A).length ≤ 12 ∧ B.length ≤ 12 ∧ (rdg B).length ≤ 12 := by
    by_cases c1 : way < 4
    · obtain ⟨B, h1, h2, h3⟩ := spoilt08 (way := way) hl hQd (by omega) hQn (fun r hr => by have := hqr r hr; omega)
      exact ⟨P, B, by simp only [c1, decide_true, if_true, call08 h3, Rs.to_nx], by omega, by omega, by omega, by omega⟩
    · by_cases c2 : way < 7
      · obtain ⟨A, h1, h2, h3⟩ := spoilt08 (ns := ns) (T := P) (way := way - 4) hl hP0 (by omega) (STab.ne hP) (fun r hr => by have := hpr r hr; omega)
        exact ⟨A, Q, by simp only [c1, c2, decide_false, Bool.false_eq_true, if_false, decide_true, if_true, intD_int, Rs.bind_nx, at_int, call08 h3, Rs.to_nx, Out.bind_nx], by omega, by omega, by omega, by omega⟩
      · exact ⟨P, Q, by simp only [c1, c2, decide_false, Bool.false_eq_true, if_false, Out.bind_nx], by omega, by omega, by omega, by omega⟩
  have l4 := copy_rD (rows := A) (by omega)
  have l5 := copy_rD (rows := B) (by omega)
  simp only [Rs.bind_nx] at l4 l5
  have hgd := law_good_eq (P := A) (Q := B) (by omega) (by omega) (by omega) (by omega)
  have hmk := marks08 (P := A) (Q := B) (by omega) (by omega) (by omega) (by omega)
  have hdue : (if (!decide (GoodPair A B)) = true then (lstD [D.bl true, D.bl true, D.bl false, D.bl false, D.bl false, D.bl false]).to fun row8 => (Out.nx row8 : Out Unit D) else Out.nx (D.lst [])) = .nx (due08 (decide (GoodPair A B))) := by
    rw [lstD_ok (by simp)]
    cases decide (GoodPair A B) <;> rfl
  have hes := eqO_same (due_shp (decide (GoodPair A B)))
  simp only [hAB, Out.bind_nx, l4, l5, Rs.bind_nx, tup2, Rs.to_nx, lstD_nil, hgd, callN_rt, asB_bl, hdue, ixD_tup0, ixD_tup1, hmk, hes, ofB_some, andD, lists_eq]
end Sw

/- part K01 -/
namespace Sw
open PySem L2
/-! ### spots -/
def spots (T : List (List Int)) : List (Nat × Nat) := (List.range T.length).flatMap fun k => (List.range (rowL T k)).map fun j => (k, j)
theorem mem_spots {T : List (List Int)} {s : Nat × Nat} : s ∈ spots T ↔ s.1 < T.length ∧ s.2 < rowL T s.1 := by
  unfold spots
  simp only [List.mem_flatMap, List.mem_range, List.mem_map]
  constructor
  · rintro ⟨k, hk, j, hj, rfl⟩
    exact ⟨hk, hj⟩
  · rintro ⟨h1, h2⟩
    exact ⟨s.1, h1, s.2, h2, rfl⟩
theorem row_cells (T : List (List Int)) (k : Nat) : T.getD k [] = (List.range (rowL T k)).map fun j => cell T k j := by
  apply List.ext_getElem
  · rw [List.length_map, List.length_range]
  · intro i h1 h2
    simp only [List.getElem_map, List.getElem_range]
    unfold cell
    rw [getD_at h1]
theorem flat_rows (T : List (List Int)) : T.flatten = (List.range T.length).flatMap fun k => T.getD k [] := by
  rw [List.flatMap_def]
  congr 1
  apply List.ext_getElem
  · simp
  · intro i h1 h2
    simp [List.getD_eq_getElem?_getD, h1]
theorem flat_cells (T : List (List Int)) : T.flatten = (spots T).map fun s => cell T s.1 s.2 := by
  rw [flat_rows]
  unfold spots
  rw [List.map_flatMap]
  congr 1
  funext k
  rw [row_cells T k, List.map_map]
  apply List.map_congr_left
  intro j _
  rfl
theorem nodup_inj {α β : Type} {f : α → β} : ∀ {l : List α}, l.Nodup → ((l.map f).Nodup ↔ ∀ a ∈ l, ∀ b ∈ l, a ≠ b → f a ≠ f b)
  | [], _ => by simp
  | x :: l, h => by
    obtain ⟨h1, h2⟩ := List.nodup_cons.mp h
    rw [List.map_cons, List.nodup_cons, nodup_inj h2]
    constructor
    · rintro ⟨g1, g2⟩ a ha b hb hne
      rcases List.mem_cons.mp ha with za | ya
      · rcases List.mem_cons.mp hb with zb | yb
        · exact absurd (za.trans zb.symm) hne
        · exact fun e => g1 (by rw [← za, e]; exact List.mem_map_of_mem yb)
      · rcases List.mem_cons.mp hb with zb | yb
        · exact fun e => g1 (by rw [← zb, ← e]; exact List.mem_map_of_mem ya)
        · exact g2 a ya b yb hne
    · intro g
      refine ⟨fun m => ?_, fun a ha b hb => g a (.tail _ ha) b (.tail _ hb)⟩
      obtain ⟨b, hb, e⟩ := List.mem_map.mp m
      exact g x (.head _) b (.tail _ hb) (fun z => h1 (by rw [z]; exact hb)) e.symm
theorem spots_nodup (T : List (List Int)) : (spots T).Nodup := by
  unfold spots
  have : ∀ n, ((List.range n).flatMap fun k => (List.range (rowL T k)).map fun j => (k, j)).Nodup := by
    intro n
    induction n with
    | zero => simp
    | succ n ih =>
      rw [List.range_succ, List.flatMap_append, List.nodup_append]
      refine ⟨ih, ?_, fun a ha b hb => ?_⟩
      · simp only [List.flatMap_cons, List.flatMap_nil, List.append_nil]
        rw [nodup_inj List.nodup_range]
        intro a _ b _ hne e
        exact hne (by cases e; rfl)
      · simp only [List.mem_flatMap, List.mem_range, List.mem_map, List.mem_singleton] at ha hb
        obtain ⟨k, hk, j, hj, rfl⟩ := ha
        obtain ⟨k', rfl, j', hj', rfl⟩ := hb
        intro e
        cases e
        omega
  exact this _
theorem nodup_cells (T : List (List Int)) : (rdg T).Nodup ↔ ∀ a ∈ spots T, ∀ b ∈ spots T, a ≠ b → cell T a.1 a.2 ≠ cell T b.1 b.2 := by
  rw [← (flat_perm T).nodup_iff, flat_cells, nodup_inj (spots_nodup T)]
theorem cell_row {T : List (List Int)} (h : STab T) {k j j' : Nat} (hk : k < T.length) (hj : j < j') (hj' : j' < rowL T k) : cell T k j < cell T k j' := by
  have hc := (stab_iff.mp h).2
  unfold cellsB at hc
  simp only [all_range] at hc
  have one : ∀ i, i + 1 < rowL T k → cell T k i < cell T k (i + 1) := fun i hi => by
    have := hc k hk (i + 1) hi
    unfold cellB at this
    simp only [Bool.and_eq_true, Bool.or_eq_true, decide_eq_true_eq] at this
    have h2 := this.1.resolve_left (by omega)
    simpa using h2
  obtain ⟨d, rfl⟩ : ∃ d, j' = j + 1 + d := ⟨j' - j - 1, by omega⟩
  clear hj
  induction d with
  | zero => exact one j hj'
  | succ d ih =>
    have h1 := ih (by omega)
    have h2 := one (j + 1 + d) (by omega)
    rw [show j + 1 + (d + 1) = j + 1 + d + 1 by omega]
    omega
theorem rowL_anti {T : List (List Int)} (h : STab T) {k k' : Nat} (hk : k ≤ k') : rowL T k' ≤ rowL T k := by
  obtain ⟨d, rfl⟩ : ∃ d, k' = k + d := ⟨k' - k, by omega⟩
  clear hk
  induction d with
  | zero => exact Nat.le_refl _
  | succ d ih => exact Nat.le_trans (STab.le (k + d) h) ih
theorem cell_col {T : List (List Int)} (h : STab T) {k k' j : Nat} (hk : k < k') (hk' : k' < T.length) (hj : j < rowL T k') : cell T k j < cell T k' j := by
  have hc := (stab_iff.mp h).2
  unfold cellsB at hc
  simp only [all_range] at hc
  have one : ∀ i, i + 1 < T.length → j < rowL T (i + 1) → cell T i j < cell T (i + 1) j := fun i hi hj => by
    have := hc (i + 1) hi j hj
    unfold cellB at this
    simp only [Bool.and_eq_true, Bool.or_eq_true, decide_eq_true_eq] at this
    have h2 := this.2.resolve_left (by omega)
    simpa using h2
  obtain ⟨d, rfl⟩ : ∃ d, k' = k + 1 + d := ⟨k' - k - 1, by omega⟩
  clear hk
  induction d with
  | zero => exact one k hk' hj
  | succ d ih =>
    have hj2 : j < rowL T (k + 1 + d) := Nat.lt_of_lt_of_le hj (rowL_anti h (by omega))
    have h1 := ih (by omega) hj2
    have h2 := one (k + 1 + d) (by omega) (by rw [show k + 1 + d + 1 = k + 1 + (d + 1) by omega]; exact hj)
    rw [show k + 1 + (d + 1) = k + 1 + d + 1 by omega]
    omega
theorem cell_mono {T : List (List Int)} (h : STab T) {a b : Nat × Nat} (hb : b ∈ spots T) (h1 : a.1 ≤ b.1) (h2 : a.2 ≤ b.2) (hne : a ≠ b) : cell T a.1 a.2 < cell T b.1 b.2 := by
  obtain ⟨b1, b2⟩ := mem_spots.mp hb
  have hr := rowL_anti h h1
  rcases Nat.lt_or_eq_of_le h1 with c | c
  · have s1 := cell_col h c b1 b2
    rcases Nat.lt_or_eq_of_le h2 with c2 | c2
    · have s2 := cell_row h (k := a.1) (by omega) c2 (by omega)
      omega
    · rw [c2]; exact s1
  · rcases Nat.lt_or_eq_of_le h2 with c2 | c2
    · rw [c]; exact cell_row h b1 c2 b2
    · exact absurd (Prod.ext c c2) hne
def pairB (T : List (List Int)) (a b : Nat × Nat) : Bool := !(decide (a ≠ b) && decide (cell T a.1 a.2 = cell T b.1 b.2)) && !(decide (a ≠ b) && (decide (a.1 ≤ b.1) && (decide (a.2 ≤ b.2) && decide (cell T b.1 b.2 < cell T a.1 a.2))))
theorem pairs_iff {T : List (List Int)} (hs : shpB (T.map List.length) = true) : ((spots T).all fun a => (spots T).all fun b => pairB T a b) = true ↔ Stairs T := by
  have hsh := hs
  unfold shpB at hsh
  simp only [List.length_map, all_range, rowL_lens, Bool.and_eq_true, Bool.or_eq_true, decide_eq_true_eq] at hsh
  simp only [List.all_eq_true]
  constructor
  · intro h
    have hd : ∀ a ∈ spots T, ∀ b ∈ spots T, a ≠ b → cell T a.1 a.2 ≠ cell T b.1 b.2 := fun a ha b hb hne e => by
      have := h a ha b hb
      unfold pairB at this
      simp [hne, e] at this
    have hm : ∀ a ∈ spots T, ∀ b ∈ spots T, a ≠ b → a.1 ≤ b.1 → a.2 ≤ b.2 → cell T a.1 a.2 < cell T b.1 b.2 := fun a ha b hb hne h1 h2 => by
      have e1 := h a ha b hb
      have e2 := hd a ha b hb hne
      by_cases c : cell T b.1 b.2 < cell T a.1 a.2
      · unfold pairB at e1
        simp [hne, h1, h2, c] at e1
      · omega
    refine ⟨stab_iff.mpr ⟨hs, ?_⟩, (nodup_cells T).mpr hd⟩
    unfold cellsB
    simp only [all_range]
    intro k hk j hj
    unfold cellB
    simp only [Bool.and_eq_true, Bool.or_eq_true, decide_eq_true_eq]
    refine ⟨?_, ?_⟩
    · by_cases c : j = 0
      · exact .inl c
      · exact .inr (hm (k, j - 1) (mem_spots.mpr ⟨hk, by show j - 1 < rowL T k; omega⟩) (k, j) (mem_spots.mpr ⟨hk, hj⟩) (fun e => by have := congrArg Prod.snd e; simp at this; omega) (Nat.le_refl _) (by show j - 1 ≤ j; omega))
    · by_cases c : k = 0
      · exact .inl c
      · have := (hsh k hk).2.resolve_left c
        exact .inr (hm (k - 1, j) (mem_spots.mpr ⟨by show k - 1 < T.length; omega, by show j < rowL T (k - 1); omega⟩) (k, j) (mem_spots.mpr ⟨hk, hj⟩) (fun e => by have := congrArg Prod.fst e; simp at this; omega) (by show k - 1 ≤ k; omega) (Nat.le_refl _))
  · intro h a ha b hb
    have h1 := (nodup_cells T).mp h.2 a ha b hb
    unfold pairB
    by_cases c : a = b
    · simp [c]
    · have e1 := h1 c
      simp only [c, ne_eq, not_false_eq_true, decide_true, e1, decide_false, Bool.and_false, Bool.not_false, Bool.true_and]
      by_cases c1 : a.1 ≤ b.1
      · by_cases c2 : a.2 ≤ b.2
        · have := cell_mono h.1 hb c1 c2 c
          have : ¬ cell T b.1 b.2 < cell T a.1 a.2 := by omega
          simp [this]
        · simp [c2]
      · simp [c1]
end Sw
namespace Sw
open PySem L2
theorem cutR_to (T : List (List Int)) (a : Nat) : cutRD (rD T) none (some (a : Int)) = .nx (rD (T.take a)) := by
  show Rs.nx (D.lst (cutL (T.map iD) none (some (a : Int)))) = _
  unfold cutL
  rw [sIx_none, sIx_nat, List.drop_zero, Nat.sub_zero, List.length_map]
  rcases Nat.le_total a T.length with h | h
  · rw [Nat.min_eq_left h, ← List.map_take]
  · rw [Nat.min_eq_right h, List.take_of_length_le h, List.take_of_length_le (by simp)]
def shpC (T : List (List Int)) (k : Nat) : Bool := decide (0 < rowL T k) && decide (((T.take k).filter fun r => decide (r.length < rowL T k)).length = 0)
theorem shpC_all (T : List (List Int)) : (List.range T.length).all (shpC T) = shpB (T.map List.length) := by
  rw [Bool.eq_iff_iff]
  unfold shpB shpC
  simp only [List.length_map, all_range, rowL_lens, Bool.and_eq_true, Bool.or_eq_true, decide_eq_true_eq]
  have hf : ∀ k, k < T.length → (((T.take k).filter fun r => decide (r.length < rowL T k)).length = 0 ↔ ∀ i < k, rowL T k ≤ rowL T i) := fun k hk => by
    rw [List.length_eq_zero_iff, List.filter_eq_nil_iff]
    constructor
    · intro h i hi
      have := h (T[i]'(by omega)) (List.mem_take_iff_getElem.mpr ⟨i, by omega, rfl⟩)
      rw [decide_eq_true_eq] at this
      rw [rowL_at (show i < T.length by omega)]
      omega
    · intro h r hr
      obtain ⟨i, hi, rfl⟩ := List.mem_take_iff_getElem.mp hr
      have := h i (by omega)
      rw [rowL_at (show i < T.length by omega)] at this
      rw [decide_eq_true_eq]
      omega
  constructor
  · intro h k hk
    obtain ⟨h1, h2⟩ := h k hk
    refine ⟨h1, ?_⟩
    by_cases c : k = 0
    · exact .inl c
    · exact .inr ((hf k hk).mp h2 (k - 1) (by omega))
  · intro h k hk
    refine ⟨(h k hk).1, (hf k hk).mpr fun i hi => ?_⟩
    obtain ⟨d, rfl⟩ : ∃ d, k = i + 1 + d := ⟨k - i - 1, by omega⟩
    clear hi
    induction d with
    | zero => simpa using (h (i + 1) hk).2.resolve_left (by omega)
    | succ d ih =>
      have h1 := ih (by omega)
      have h2 := (h (i + 1 + (d + 1)) hk).2.resolve_left (by omega)
      rw [show i + 1 + (d + 1) - 1 = i + 1 + d by omega] at h2
      omega
theorem law_shape_eq {T : List (List Int)} (hT : T.length ≤ 900) : f_law_shape (rD T) = .rt (.bl (shpB (T.map List.length))) := by
  unfold f_law_shape
  simp only [Rs.bind_nx, lenD_lst, List.length_map, Rs.to_nx, rngD1_len (show T.length ≤ 16777216 by omega)]
  rw [forL_chk (c := shpC T)]
  · rw [shpC_all]
    cases shpB (T.map List.length) <;> rfl
  · intro k hk
    have hfl := filtD_map (c := fun d5 => (lenD [d5]).bind fun x15 => (lenD [iD T[k]]).bind fun x16 => ofO (ltO x15 x16)) iD (fun r => decide (r.length < rowL T k)) (T.take k) (by simp; omega) (fun r _ => by
      simp only [lenD_lst, List.length_map, Rs.bind_nx, ltO_int, ofO_some, rowL_at hk]
      congr 1
      apply decide_eq_decide.mpr
      omega)
    unfold shpC
    simp only [ixD_rD hk, Rs.bind_nx, lenD_lst, List.length_map, eqO_int, ofO_some, asI, cutR_to] at hfl ⊢
    simp only [hfl, Rs.bind_nx, lenD_lst, List.length_map, gtO_int, ofO_some]
    by_cases c0 : T[k].length = 0
    · have : ¬ 0 < rowL T k := by rw [rowL_at hk]; omega
      simp [c0, this]
    · have c0' : ¬ ((T[k].length : Int) = 0) := by omega
      have c1 : 0 < rowL T k := by rw [rowL_at hk]; omega
      simp only [c0', c1, decide_false, decide_true, Bool.false_eq_true, if_false, Bool.true_and, Rs.to_nx]
      by_cases c2 : ((T.take k).filter fun r => decide (r.length < rowL T k)).length = 0
      · simp [c2]
      · have : (0 : Int) < (((T.take k).filter fun r => decide (r.length < rowL T k)).length : Int) := by omega
        simp only [c2, this, decide_true, decide_false, if_true, Out.bind_rt, Bool.false_eq_true, if_false]
abbrev spD (s : Nat × Nat) : D := iD [(s.1 : Int), (s.2 : Int)]
theorem sp_0 (a : Nat × Nat) : ixD (spD a) (.int 0) = .nx (.int (a.1 : Int)) := ixD_lst0 _ _
theorem sp_1 (a : Nat × Nat) : ixD (spD a) (.int 1) = .nx (.int (a.2 : Int)) := ixD_lst1 _ _ _
theorem ne_sp (a b : Nat × Nat) : neO (spD a) (spD b) = some (decide (a ≠ b)) := by
  rw [neO_iD]
  congr 1
  rw [← decide_not]
  apply decide_eq_decide.mpr
  obtain ⟨a1, a2⟩ := a
  obtain ⟨b1, b2⟩ := b
  simp
  omega
theorem forL_chkM {α β : Type} {b : D → Unit → Out Unit Unit} {e : α → D} {c : α → Bool} {l : List α} (h : ∀ a ∈ l, b (e a) () = if c a = true then .nx () else .rt (.bl false)) :
    (forL b (l.map e) () : Out β Unit) = if l.all c = true then .nx () else .rt (.bl false) := by
  induction l with
  | nil => rfl
  | cons x l ih =>
    rw [List.map_cons, forL_cons, h x (.head _), List.all_cons]
    cases hc : c x with
    | true => simpa using ih fun y hy => h y (.tail _ hy)
    | false => simp
def preS (T : List (List Int)) (k : Nat) : List (Nat × Nat) := (List.range k).flatMap fun k => (List.range (rowL T k)).map fun j => (k, j)
theorem preS_succ (T : List (List Int)) (k : Nat) : preS T (k + 1) = preS T k ++ (List.range (rowL T k)).map fun j => (k, j) := by
  unfold preS
  rw [List.range_succ, List.flatMap_append]
  simp
theorem preS_len {T : List (List Int)} {m : Nat} (h : ∀ k, rowL T k ≤ m) : ∀ k, (preS T k).length ≤ k * m
  | 0 => by simp [preS]
  | k + 1 => by
    have h1 := preS_len h k
    have h2 := h k
    rw [preS_succ, List.length_append, List.length_map, List.length_range, Nat.succ_mul]
    omega
theorem ext_ok {a b : List D} (h : a.length + b.length ≤ 16777216) : extOD none (.lst a) (.nx (.lst b)) = .nx (.lst (a ++ b)) := by
  unfold extOD
  simp only [plGet_none, Rs.bind_nx, plPut_none]
  rw [if_pos (by rw [szl]; exact h)]
theorem law_stairs1_eq {T : List (List Int)} (hT : T.length ≤ 100) (hr : ∀ r ∈ T, r.length ≤ 100) : f_law_stairs_k01 (rD T) = .rt (.bl (decide (Stairs T))) := by
  unfold f_law_stairs_k01
  simp only [Rs.bind_nx, law_shape_eq (T := T) (by omega), callN_rt, asB_bl, Rs.to_nx, lstD_nil]
  cases hs : shpB (T.map List.length) with
  | false =>
    have : ¬ Stairs T := fun h => by rw [(stab_iff.mp h.1).1] at hs; cases hs
    simp [this]
  | true =>
    have hrow : ∀ k, rowL T k ≤ 100 := fun k => by
      by_cases c : k < T.length
      · rw [rowL_at c]; exact hr _ (List.getElem_mem c)
      · rw [rowL_out (by omega)]; omega
    simp only [Bool.not_true, Bool.false_eq_true, if_false, Out.bind_nx, lenD_lst, List.length_map, Rs.bind_nx, Rs.to_nx, rngD1_len (show T.length ≤ 16777216 by omega)]
    refine forU_then (P := fun o => o = .rt (.bl (decide (Stairs T)))) (fun k s => s = .lst ((preS T k).map spD)) rfl ?_ ?_
    · rintro k s hk rfl
      have hc : compRg yes (fun d11 => ((at? (.int (k : Int))).bind fun x16 => (at? d11).bind fun x17 => Rs.nx [x16, x17]).bind lstD) T[k].length = .nx (.lst (((List.range (rowL T k)).map fun j => (k, j)).map spD)) := by
        unfold compRg upto
        rw [compD_map (fun (i : Nat) => D.int i) (fun _ => true) (fun j : Nat => spD (k, j)) (List.range T[k].length) (by rw [List.length_range]; have := hr _ (List.getElem_mem hk); omega) (fun _ _ => rfl) (fun i hi _ => by simp)]
        rw [List.filter_eq_self.mpr (by simp), rowL_at hk, List.map_map]
        rfl
      have hl := preS_len hrow k
      have hl2 := hrow k
      have hk2 : k * 100 ≤ 10000 := by omega
      simp only [at_int, Rs.bind_nx] at hc
      have he := ext_ok (a := (preS T k).map spD) (b := ((List.range (rowL T k)).map fun j => (k, j)).map spD) (by simp only [List.length_map, List.length_range]; omega)
      have hlk := hr _ (List.getElem_mem hk)
      refine ⟨_, ?_, rfl⟩
      simp only [ixD_rD hk, Rs.bind_nx, lenD_lst, List.length_map, rng1_int (j := (T[k].length : Int)) (by omega) (by omega), Int.toNat_natCast, at_int, hc, he, Rs.to_nx]
      rw [preS_succ, List.map_append]
    · rintro s rfl
      simp only [Rs.to_nx, seqD_lst]
      have hp : preS T T.length = spots T := rfl
      rw [hp, forL_chkM (c := fun a => (spots T).all fun b => pairB T a b)]
      · cases hc : (spots T).all fun a => (spots T).all fun b => pairB T a b with
        | true => simp [(pairs_iff hs).mp hc]
        | false =>
          have : ¬ Stairs T := fun h => by rw [(pairs_iff hs).mpr h] at hc; cases hc
          simp [this]
      · intro a ha
        obtain ⟨a1, a2⟩ := mem_spots.mp ha
        rw [rowL_at a1] at a2
        simp only [sp_0, sp_1, Rs.bind_nx, ixD_rD a1, ixD_cell a1 a2, at_int, Rs.to_nx]
        rw [forL_chkM (c := fun b => pairB T a b)]
        · cases (spots T).all fun b => pairB T a b <;> rfl
        · intro b hb
          obtain ⟨b1, b2⟩ := mem_spots.mp hb
          rw [rowL_at b1] at b2
          have hne := ne_sp a b
          simp only [Rs.to_nx, Rs.bind_nx, sp_0, sp_1, ixD_rD b1, ixD_cell b1 b2, at_int, hne, ofO_some, eqO_int, leO_int, gtO_int]
          unfold pairB
          by_cases c : a = b
          · simp [c]
          · simp only [c, ne_eq, not_false_eq_true, decide_true, if_true, Bool.true_and, Rs.to_nx]
            by_cases c1 : cell T a.1 a.2 = cell T b.1 b.2
            · simp [c1]
            · simp only [c1, decide_false, Bool.false_eq_true, if_false, Out.bind_nx, Bool.not_false, Bool.true_and]
              by_cases c2 : a.1 ≤ b.1
              · have c2' : (a.1 : Int) ≤ (b.1 : Int) := by omega
                by_cases c3 : a.2 ≤ b.2
                · have c3' : (a.2 : Int) ≤ (b.2 : Int) := by omega
                  by_cases c4 : cell T b.1 b.2 < cell T a.1 a.2
                  · simp [c2, c2', c3, c3', c4]
                  · simp [c2, c2', c3, c3', c4]
                · have c3' : ¬ (a.2 : Int) ≤ (b.2 : Int) := by omega
                  simp [c2, c2', c3, c3']
              · have c2' : ¬ (a.1 : Int) ≤ (b.1 : Int) := by omega
                simp [c2, c2']
end Sw
namespace Sw
open PySem L2
theorem edP {b : Addr} {P : List (List Int)} {a j : Nat} {x : Int} (ha : a < P.length) (hj : j < P[a].length) : edD (some a) (setL (.int (j : Int)) (.int x)) (.pin b (P.map iD)) = .nx (.pin b ((P.set a (P[a].set j x)).map iD)) := by
  rw [edD_setP (es := P[a].map D.int) (by simp [ha]) (by simpa using hj), List.map_set]
  show _ = Rs.nx (D.pin b ((P.map iD).set a (.lst ((P[a].set j x).map D.int))))
  rw [List.map_set]
theorem set_lens {P : List (List Int)} {a j : Nat} {x : Int} (ha : a < P.length) : (P.set a (P[a].set j x)).map List.length = P.map List.length := by
  rw [List.map_set, List.length_set]
  apply List.ext_getElem
  · simp
  · intro i h1 h2
    rw [List.getElem_set]
    split
    · rename_i e
      subst e
      simp
    · rfl
structure Bnd (P R : List (List Int)) : Prop where
  len : R.length ≤ P.length + 5
  sum : (rdg R).length ≤ (rdg P).length + 2
theorem Bnd.of_lens {P R : List (List Int)} (h : R.map List.length = P.map List.length) : Bnd P R := ⟨by have := congrArg List.length h; simp at this; omega, by rw [len_rdg, len_rdg, h]; omega⟩
theorem spoilt01 {ns : List Int} {P : List (List Int)} (hl : ns.length ≤ 63) (hT : P.length ≤ 100) (hne : ∀ r ∈ P, r ≠ []) (hr : ∀ r ∈ P, r.length ≤ 100) :
    ∃ R : List (List Int), Bnd P R ∧ ∀ b, f_law_spoilt_by (.scr ns) (.pin b (P.map iD)) = .rt (rD R) := by
  have e400 := drawn_eq hl (k := 400) (by omega) (by omega) (m := 5) (by omega)
  have w1 := drawn_nn ns 400 (m := 5) (by omega)
  have w2 := drawn_lt ns 400 (m := 5) (by omega)
  unfold f_law_spoilt_by
  simp only [Rs.bind_nx, unpin_pin, lenD_lst, List.length_map, e400, callN_rt, at_int, Rs.to_nx, eqO_int, ofO_some, lstD_nil, lstD_1, lstD_2]
  generalize drawn ns 400 5 = way at *
  by_cases hP : P.length = 0
  · have hP' : (P.length : Int) = 0 := by omega
    rw [lstD_ok (by simp)]
    simp only [hP', decide_true, if_true, Rs.bind_nx]
    have : way = 0 ∨ way = 1 ∨ way = 2 ∨ way = 3 ∨ way = 4 := by omega
    rcases this with rfl | rfl | rfl | rfl | rfl
    · exact ⟨[], ⟨by simp, by simp [rdg]⟩, fun b => by
        have := ixD_lst (ds := [D.lst [], D.lst [D.lst []], D.lst [D.lst [D.int 5]], D.lst [D.lst [D.int 5], D.lst [D.int 5]], D.lst [D.lst [D.int 5, D.int 5]]]) (j := 0) (by simp)
        rw [show (0 : Int) = ((0 : Nat) : Int) from rfl, this]; rfl⟩
    · exact ⟨[[]], ⟨by simp, by simp [rdg]⟩, fun b => by
        have := ixD_lst (ds := [D.lst [], D.lst [D.lst []], D.lst [D.lst [D.int 5]], D.lst [D.lst [D.int 5], D.lst [D.int 5]], D.lst [D.lst [D.int 5, D.int 5]]]) (j := 1) (by simp)
        rw [show (1 : Int) = ((1 : Nat) : Int) from rfl, this]; rfl⟩
    · exact ⟨[[5]], ⟨by simp, by simp [rdg]⟩, fun b => by
        have := ixD_lst (ds := [D.lst [], D.lst [D.lst []], D.lst [D.lst [D.int 5]], D.lst [D.lst [D.int 5], D.lst [D.int 5]], D.lst [D.lst [D.int 5, D.int 5]]]) (j := 2) (by simp)
        rw [show (2 : Int) = ((2 : Nat) : Int) from rfl, this]; rfl⟩
    · exact ⟨[[5], [5]], ⟨by simp, by simp [rdg]⟩, fun b => by
        have := ixD_lst (ds := [D.lst [], D.lst [D.lst []], D.lst [D.lst [D.int 5]], D.lst [D.lst [D.int 5], D.lst [D.int 5]], D.lst [D.lst [D.int 5, D.int 5]]]) (j := 3) (by simp)
        rw [show (3 : Int) = ((3 : Nat) : Int) from rfl, this]; rfl⟩
    · exact ⟨[[5, 5]], ⟨by simp, by simp [rdg]⟩, fun b => by
        have := ixD_lst (ds := [D.lst [], D.lst [D.lst []], D.lst [D.lst [D.int 5]], D.lst [D.lst [D.int 5], D.lst [D.int 5]], D.lst [D.lst [D.int 5, D.int 5]]]) (j := 4) (by simp)
        rw [show (4 : Int) = ((4 : Nat) : Int) from rfl, this]; rfl⟩
  · have hP' : ¬ (P.length : Int) = 0 := by omega
    have e401 := drawn_eq hl (k := 401) (by omega) (by omega) (m := (P.length : Int)) (by omega)
    have e403 := drawn_eq hl (k := 403) (by omega) (by omega) (m := (P.length : Int)) (by omega)
    have a1 := drawn_nn ns 401 (m := (P.length : Int)) (by omega)
    have a2 := drawn_lt ns 401 (m := (P.length : Int)) (by omega)
    have o1 := drawn_nn ns 403 (m := (P.length : Int)) (by omega)
    have o2 := drawn_lt ns 403 (m := (P.length : Int)) (by omega)
    obtain ⟨a, ha⟩ : ∃ u : Nat, drawn ns 401 (P.length : Int) = (u : Int) := ⟨_, (Int.toNat_of_nonneg a1).symm⟩
    obtain ⟨o, ho⟩ : ∃ u : Nat, drawn ns 403 (P.length : Int) = (u : Int) := ⟨_, (Int.toNat_of_nonneg o1).symm⟩
    rw [ha] at e401 a2
    rw [ho] at e403 o2
    have hal : a < P.length := by omega
    have hol : o < P.length := by omega
    have hpa := len_pos (hne _ (List.getElem_mem hal))
    have hpo := len_pos (hne _ (List.getElem_mem hol))
    have e402 := drawn_eq hl (k := 402) (by omega) (by omega) (m := (P[a].length : Int)) (by omega)
    have e404 := drawn_eq hl (k := 404) (by omega) (by omega) (m := (P[o].length : Int)) (by omega)
    have j1 := drawn_nn ns 402 (m := (P[a].length : Int)) (by omega)
    have j2 := drawn_lt ns 402 (m := (P[a].length : Int)) (by omega)
    have m1 := drawn_nn ns 404 (m := (P[o].length : Int)) (by omega)
    have m2 := drawn_lt ns 404 (m := (P[o].length : Int)) (by omega)
    obtain ⟨j, hj⟩ : ∃ u : Nat, drawn ns 402 (P[a].length : Int) = (u : Int) := ⟨_, (Int.toNat_of_nonneg j1).symm⟩
    obtain ⟨m, hm⟩ : ∃ u : Nat, drawn ns 404 (P[o].length : Int) = (u : Int) := ⟨_, (Int.toNat_of_nonneg m1).symm⟩
    rw [hj] at e402 j2
    rw [hm] at e404 m2
    have hjl : j < P[a].length := by omega
    have hml : m < P[o].length := by omega
    have z12 : ¬ ((1 : Int) = 2) := by decide
    have z13 : ¬ ((1 : Int) = 3) := by decide
    have z14 : ¬ ((1 : Int) = 4) := by decide
    have z23 : ¬ ((2 : Int) = 3) := by decide
    have z24 : ¬ ((2 : Int) = 4) := by decide
    have z34 : ¬ ((3 : Int) = 4) := by decide
    have e405 := drawn_eq hl (k := 405) (by omega) (by omega) (m := 3) (by omega)
    have i1 := ixD_rD hal
    have i2 := ixD_rD hol
    simp only [hP', decide_false, Bool.false_eq_true, if_false, Out.bind_nx, e401, e403, callN_rt, Rs.bind_nx, at_int, Rs.to_nx, i1, i2, lenD_lst, List.length_map, e402, e404, ixD_iD hml, ixD_iD hjl, e405, intD_int]
    have s2 : ∀ b, idxD (.pin b (P.map iD)) (.int (a : Int)) = .nx a := fun b => idxD_pin (by simpa using hal)
    by_cases c1 : way = 1
    · subst c1
      refine ⟨P.set a (P[a].set j (P[o][m] + drawn ns 405 3 - 1)), Bnd.of_lens (set_lens hal), fun b => ?_⟩
      have s1 := edP (b := b) (x := P[o][m] + drawn ns 405 3 - 1) hal hjl
      simp only [decide_true, if_true, s2, Rs.bind_nx, Rs.to_nx, s1, Out.bind_nx, z12, z13, z14, decide_false, Bool.false_eq_true, if_false, unpin_pin]
    · by_cases c2 : way = 2
      · subst c2
        have hlen := set_lens (j := j) (x := P[o][m]) hal
        have hol2 : o < (P.set a (P[a].set j P[o][m])).length := by simpa using hol
        have hml2 : m < ((P.set a (P[a].set j P[o][m]))[o]).length := by
          rw [← rowL_at hol2, ← rowL_lens, hlen, rowL_lens, rowL_at hol]
          exact hml
        have hlen2 := set_lens (j := m) (x := P[a][j]) hol2
        refine ⟨_, Bnd.of_lens (hlen2.trans hlen), fun b => ?_⟩
        have s1 := edP (b := b) (x := P[o][m]) hal hjl
        have s4 := edP (b := b) (x := P[a][j]) hol2 hml2
        have s5 : idxD (.pin b ((P.set a (P[a].set j P[o][m])).map iD)) (.int (o : Int)) = .nx o := idxD_pin (by simpa using hol)
        simp only [c1, decide_true, if_true, s2, Rs.bind_nx, Rs.to_nx, s1, Out.bind_nx, z23, z24, decide_false, Bool.false_eq_true, if_false, unpin_pin, i1, i2, ixD_iD hml, ixD_iD hjl, at_int, s5, s4]
      · by_cases c3 : way = 3
        · subst c3
          refine ⟨(P.eraseIdx a).take o ++ [P[a]] ++ (P.eraseIdx a).drop o, ⟨?_, ?_⟩, fun b => ?_⟩
          · rw [(move_len hal).length_eq]; omega
          · rw [len_rdg, len_rdg, ((move_len (o := o) hal).map List.length).sum_nat]
            omega
          · have s1 := popAtD_pin (b := b) (ds := P.map iD) (j := a) (by simpa using hal)
            have s2 := itemOf_pin (b := b) (ds := P.map iD) (j := a) (by simpa using hal) (by simp; omega)
            have s3 := insP_pin (b := b) (ds := P.map iD) (x := iD P[a]) (j := a) (k := o) (by simpa using hal) (by simp; omega) (by omega)
            rw [List.getElem_map] at s2
            simp only [c1, c2, decide_false, Bool.false_eq_true, if_false, Out.bind_nx, decide_true, if_true, s1, s2, s3, Rs.to_nx, z34, unpin_pin]
            simp [List.map_take, List.map_drop, er_map]
        · by_cases c4 : way = 4
          · subst c4
            refine ⟨P.take a ++ [[]] ++ P.drop a, ⟨?_, ?_⟩, fun b => ?_⟩
            · rw [(perm_ins P [] a).length_eq, List.length_cons]; omega
            · rw [len_rdg, len_rdg, ((perm_ins P [] a).map List.length).sum_nat]
              simp
            · have s1 := insD_pin (b := b) (ds := P.map iD) (x := .lst []) (k := a) (by simp; omega) (by omega)
              simp only [c1, c2, c3, decide_false, Bool.false_eq_true, if_false, Out.bind_nx, decide_true, if_true, Rs.bind_nx, lstD_nil, s1, Rs.to_nx, unpin_pin]
              simp [List.map_take, List.map_drop]
          · exact ⟨P, ⟨by omega, by omega⟩, fun b => by simp only [c1, c2, c3, c4, decide_false, Bool.false_eq_true, if_false, Out.bind_nx, unpin_pin, Rs.to_nx]⟩
theorem isi_bool (b : Bool) : isiO "bool" (.bl b) = some true := isi_of (t := "bool") rfl (by decide +kernel)
theorem eqO_bls (a : Bool) : eqO (.bl a) (.bl a) = some true := eqO_same (n := 0) (shp_bl a)
theorem neO_bls (a : Bool) : neO (.bl a) (.bl a) = some false := neO_same (n := 0) (shp_bl a)
theorem true_k01 (ns : List Int) (hl : ns.length ≤ 63) : f_law_k01 (.scr ns) = .rt (.bl true) := by
  unfold f_law_k01
  obtain ⟨row, er, hr0, hnd⟩ := row_by_ok hl (b := 40) (by omega) (by omega)
  have er : f_law_row_by (.scr ns) (.int 40) = .rt (iD row) := er
  have hld := law_laid_eq (row := row) (by omega)
  obtain ⟨hp0, hpm⟩ := laid_pair row hnd
  have hP := hp0.p
  have hlen := hp0.lens.2
  simp only [Rs.bind_nx, er, callN_rt, hld, show itemAt 0 (D.tup [rD (laidP row).1, rD (laidP row).2]) = .nx (rD (laidP row).1) from rfl, Rs.to_nx]
  generalize (laidP row).1 = P at *
  clear hp0 hld
  have hPl := stab_len (STab.ne hP)
  obtain ⟨R, hB, hR⟩ := spoilt01 (ns := ns) (P := P) hl (by omega) (STab.ne hP) (fun r hr => by have := rdg_len hr; omega)
  have hB1 := hB.len
  have hB2 := hB.sum
  have hRr : ∀ r ∈ R, r.length ≤ 100 := fun r hr => by have := rdg_len hr; omega
  have l4 := copy_rD (rows := R) (by omega)
  simp only [Rs.bind_nx] at l4
  have hls : listD [iD (R.map fun r => (r.length : Int))] = .nx (iD (R.map fun r => (r.length : Int))) := listD_iD _
  simp only [callJO_eq hR, Rs.to_nx, lens_rD (T := R) (by omega), l4, hls, shape_lens (T := R) (by omega), callN_rt, Rs.bind_nx, at_bl, isi_bool, ofB_some, asB_bl, Bool.not_true, Bool.false_eq_true, if_false, law_shape_eq (T := R) (by omega), neO_bls, ofO_some, decide_true, neO_iD, Out.bind_nx, is_stairs_eq (T := R) (by omega) (by omega), andD,
    law_stairs1_eq (T := R) (by omega) hRr, eqO_bls, eqO_same (shp_rD R)]
end Sw

/- part D_k01 -/
namespace Sw
open PySem PySem.Spec PyProof.Rows L2
def topS (i : Nat) : Stmt := PySem.Challenge.pw_stairrows_k01_what_stairs_are.main.body.getD i (.Pass ⟨0, 0, 0, 0⟩)
theorem star_L {xs es : List Expr} {p : Pos} {env : Env} : starEach (.List xs p :: es) env = (false, eval (.List xs p) env) :: starEach es env := rfl
abbrev s_is_shape : Stmt := topS 1
theorem sc_is_shape : FnScope ["lengths", "k"] ["lengths"] (defScope s_is_shape) := ⟨rfl, rfl, rfl, by decide +kernel, rfl, by decide +kernel, by decide +kernel⟩
theorem ok_is_shape {P : Program} {w : World} {K : PySem.W.Frag} {mg : Str → Option Value} {base : Heap} (m : Bi mg) (h : Has K mg "is_shape" "is_shape" s_is_shape ["lengths"]) :
    Does P w K mg base CX0 "is_shape" ["lengths"] 1 (spN K .R (fn1 f_is_shape)) := by
  refine h.ok sc_is_shape ar1 (el := [.J, .J]) fun f cdv A outer s H E ds hr hl => ?_
  have hpo : PassesOwn (model P w) (A.deeper (envOfC "is_shape" (defScope s_is_shape) s.heap.objs.size f cdv)) (envOfC "is_shape" (defScope s_is_shape) s.heap.objs.size f cdv) (fun _ _ => False) := PassesOwn.never
  have tk : Takes (cxOf CX0 P w K mg base ["lengths", "k"] "is_shape" (defScope s_is_shape) f cdv A outer s H E).nox W0 := takes0
  match ds, hl with
  | [a_lengths], _ =>
    show Ex (cxOf CX0 P w K mg base ["lengths", "k"] "is_shape" (defScope s_is_shape) f cdv A outer s H E).nox W0 [] .R (defBody s_is_shape) [.S 0 a_lengths, .J] (f_is_shape a_lengths) (fun _ : Unit => [.J, .J]) (fun _ : Unit => [.J, .J])
    unfold f_is_shape
    exact (ex_forR1 (mkS := (fun s : Unit => [.S 0 a_lengths, .J])) 1 m.range (evL1 (ev_len1 m (ev_var 0))) (.keep (.keep .nil)) (fun d3 s4 => (ex_if (mkS := (fun s : Unit => [.S 0 a_lengths, .S 0 d3])) (evW_or (evT_cmp op_lt cmp_lt (ev_ix (ev_var 0) (ev_var 1)) ev_int (nomark _)) (evW_or1 (evW_and (evT_cmp op_gt cmp_gt (ev_var 1) ev_int (nomark _)) (evW_and1 (evT_cmp op_lt cmp_lt (ev_ix (ev_var 0) (ev_sub (ev_var 1) ev_int)) (ev_ix (ev_var 0) (ev_var 1)) (nomark _)))).t)).t (ex_ret ev_bl) (ex_nil (.keep (.keep .nil))) fun s21 => (ex_nil (.keep (.drop .nil))))) (fun s22 => (ex_ret ev_bl)) (fun _ => (by decide : 1 < 2)) hpo (pg_name (i := 1) sc_is_shape.nd rfl (by first | exact Or.inl rfl | exact Or.inr rfl)))
abbrev s_reading : Stmt := topS 3
theorem sc_reading : FnScope ["rows", "found", "row", "number"] ["rows"] (defScope s_reading) := ⟨rfl, rfl, rfl, by decide +kernel, rfl, by decide +kernel, by decide +kernel⟩
theorem ok_reading {P : Program} {w : World} {K : PySem.W.Frag} {mg : Str → Option Value} {base : Heap} (m : Bi mg) (h : Has K mg "reading" "reading" s_reading ["rows"]) :
    Does P w K mg base CX0 "reading" ["rows"] 1 (spN K (.O 1) (fn1 f_reading)) := by
  refine h.ok sc_reading ar1 (el := [.J, .J, .J, .J]) fun f cdv A outer s H E ds hr hl => ?_
  have hpo : PassesOwn (model P w) (A.deeper (envOfC "reading" (defScope s_reading) s.heap.objs.size f cdv)) (envOfC "reading" (defScope s_reading) s.heap.objs.size f cdv) (fun _ _ => False) := PassesOwn.never
  have tk : Takes (cxOf CX0 P w K mg base ["rows", "found", "row", "number"] "reading" (defScope s_reading) f cdv A outer s H E).nox W0 := takes0
  match ds, hl with
  | [a_rows], _ =>
    show Ex (cxOf CX0 P w K mg base ["rows", "found", "row", "number"] "reading" (defScope s_reading) f cdv A outer s H E).nox W0 [] (.O 1) (defBody s_reading) [.S 0 a_rows, .J, .J, .J] (f_reading a_rows) (fun _ : Unit => [.J, .J, .J, .J]) (fun _ : Unit => [.J, .J, .J, .J])
    unfold f_reading
    exact (ex_set (n := 1) 1 (evM_O (ev_lstO evL_nil)).p (fun found25 => (ex_forV (mkS := (fun s : D => [.S 0 a_rows, .S 1 s, .J, .J])) 2 m.reversed (evM_S (evS_var 0)) (.keep (.keep (.keep (.keep .nil)))) (fun d26 s27 => (ex_extA 1 (recv_var 1) (ev_lcIf (ev_var 2) sc_reading.nd (blkOk_by (N := ["rows", "found", "row", "number"]) (sc := defScope s_reading) (by decide +kernel)) (by rfl) (fun _ _ _ _ _ d30 => (evT_cmp op_notN cmp_isntN (ev_var 3) ev_non (nomark _))) (fun _ _ _ _ _ d30 => (ev_var 3).atom) (fun _ _ _ _ _ => pg_name (i := 3) sc_reading.nd rfl (by first | exact Or.inl rfl | exact Or.inr rfl))).ev.toR1 (fun found29 => (ex_nil (.keep (.keep (.drop (.keep .nil)))))) rfl lev_none)) (fun s33 => (ex_retP (evM_var 1).p)) (fun _ => (by decide : 2 < 4)) hpo (pg_name (i := 2) sc_reading.nd rfl (by first | exact Or.inl rfl | exact Or.inr rfl)))) (fun _ h => ps_set sc_reading.nd rfl (by first | exact Or.inl rfl | exact Or.inr rfl) h))
abbrev s_is_stairs : Stmt := topS 2
theorem sc_is_stairs : FnScope ["rows", "k", "j", "numbers", "row"] ["rows"] (defScope s_is_stairs) := ⟨rfl, rfl, rfl, by decide +kernel, rfl, by decide +kernel, by decide +kernel⟩
theorem ok_is_stairs {P : Program} {w : World} {K : PySem.W.Frag} {mg : Str → Option Value} {base : Heap} (m : Bi mg) (h : Has K mg "is_stairs" "is_stairs" s_is_stairs ["rows"]) (h_is_shape : Does P w K mg base CX0 "is_shape" ["lengths"] 1 (spN K .R (fn1 f_is_shape))) (h_reading : Does P w K mg base CX0 "reading" ["rows"] 1 (spN K (.O 1) (fn1 f_reading))) :
    Does P w K mg base CX0 "is_stairs" ["rows"] 2 (spN K .R (fn1 f_is_stairs)) := by
  refine h.ok sc_is_stairs ar1 (el := [.J, .J, .J, .J, .J]) fun f cdv A outer s H E ds hr hl => ?_
  have hpo : PassesOwn (model P w) (A.deeper (envOfC "is_stairs" (defScope s_is_stairs) s.heap.objs.size f cdv)) (envOfC "is_stairs" (defScope s_is_stairs) s.heap.objs.size f cdv) (fun _ _ => False) := PassesOwn.never
  have tk : Takes (cxOf CX0 P w K mg base ["rows", "k", "j", "numbers", "row"] "is_stairs" (defScope s_is_stairs) f cdv A outer s H E).nox W0 := takes0
  match ds, hl with
  | [a_rows], _ =>
    show Ex (cxOf CX0 P w K mg base ["rows", "k", "j", "numbers", "row"] "is_stairs" (defScope s_is_stairs) f cdv A outer s H E).nox W0 [] .R (defBody s_is_stairs) [.S 0 a_rows, .J, .J, .J, .J] (f_is_stairs a_rows) (fun _ : Unit => [.J, .J, .J, .J, .J]) (fun _ : Unit => [.J, .J, .J, .J, .J])
    unfold f_is_stairs
    exact (ex_if (mkS := (fun s : Unit => [.S 0 a_rows, .J, .J, .J, .J])) (evT_not (evT_val (call1 h_is_shape hr (ev_lc (ev_var 0) sc_is_stairs.nd (blkOk_by (N := ["rows", "k", "j", "numbers", "row"]) (sc := defScope s_is_stairs) (by decide +kernel)) (by rfl) (fun _ _ _ _ _ d36 => (ev_len1 m (ev_var 4))) (fun _ _ _ _ _ => pg_name (i := 4) sc_is_stairs.nd rfl (by first | exact Or.inl rfl | exact Or.inr rfl))).ev.toR1))) (ex_ret ev_bl) (ex_nil (.keep (.keep (.keep (.keep (.keep .nil)))))) fun s40 => (ex_forR1 (mkS := (fun s : Unit => [.S 0 a_rows, .J, .J, .J, .J])) 1 m.range (evL1 (ev_len1 m (ev_var 0))) (.keep (.keep (.keep (.keep (.keep .nil))))) (fun d43 s44 => (ex_forR1 (mkS := (fun s : Unit => [.S 0 a_rows, .S 0 d43, .J, .J, .J])) 2 m.range (evL1 (ev_len1 m (ev_ix (ev_var 0) (ev_var 1)))) (.keep (.keep (.keep (.keep (.keep .nil))))) (fun d49 s50 => (ex_if (mkS := (fun s : Unit => [.S 0 a_rows, .S 0 d43, .S 0 d49, .J, .J])) (evW_and (evT_cmp op_gt cmp_gt (ev_var 2) ev_int (nomark _)) (evW_and1 (evT_cmp op_ge cmp_ge (ev_ix (ev_ix (ev_var 0) (ev_var 1)) (ev_sub (ev_var 2) ev_int)) (ev_ix (ev_ix (ev_var 0) (ev_var 1)) (ev_var 2)) (nomark _)))).t (ex_ret ev_bl) (ex_nil (.keep (.keep (.keep (.keep (.keep .nil)))))) fun s66 => (ex_if (mkS := (fun s : Unit => [.S 0 a_rows, .S 0 d43, .S 0 d49, .J, .J])) (evW_and (evT_cmp op_gt cmp_gt (ev_var 1) ev_int (nomark _)) (evW_and1 (evT_cmp op_ge cmp_ge (ev_ix (ev_ix (ev_var 0) (ev_sub (ev_var 1) ev_int)) (ev_var 2)) (ev_ix (ev_ix (ev_var 0) (ev_var 1)) (ev_var 2)) (nomark _)))).t (ex_ret ev_bl) (ex_nil (.keep (.keep (.keep (.keep (.keep .nil)))))) fun s82 => (ex_nil (.keep (.keep (.drop (.keep (.keep .nil))))))))) (fun s83 => (ex_nil (.keep (.drop (.keep (.keep (.keep .nil))))))) (fun _ => (by decide : 2 < 5)) hpo (pg_name (i := 2) sc_is_stairs.nd rfl (by first | exact Or.inl rfl | exact Or.inr rfl)))) (fun s86 => (ex_set (n := 1) 3 (evM_O (call1 h_reading hr (ev_var 0))).p (fun numbers87 => (ex_frz 3 (ex_ret (ev_cmp (op_eqD hr.units) cmp_eq (ev_lenset m (ev_var 3)) (ev_len1 m (ev_var 3)) (nomark _))))) (fun _ h => ps_set sc_is_stairs.nd rfl (by first | exact Or.inl rfl | exact Or.inr rfl) h))) (fun _ => (by decide : 1 < 5)) hpo (pg_name (i := 1) sc_is_stairs.nd rfl (by first | exact Or.inl rfl | exact Or.inr rfl))))
abbrev s_law_drawn : Stmt := topS 5
theorem sc_law_drawn : FnScope ["script", "k", "many", "cell", "mixed"] ["script", "k", "many"] (defScope s_law_drawn) := ⟨rfl, rfl, rfl, by decide +kernel, rfl, by decide +kernel, by decide +kernel⟩
theorem ok_law_drawn {P : Program} {w : World} {K : PySem.W.Frag} {mg : Str → Option Value} {base : Heap} (m : Bi mg) (h : Has K mg "_law_drawn" "_law_drawn" s_law_drawn ["script", "k", "many"]) :
    Does P w K mg base CX0 "_law_drawn" ["script", "k", "many"] 1 (spN K .R (fn3 f_law_drawn)) := by
  refine h.ok sc_law_drawn ar3 (el := [.J, .J, .J, .J, .J]) fun f cdv A outer s H E ds hr hl => ?_
  have hpo : PassesOwn (model P w) (A.deeper (envOfC "_law_drawn" (defScope s_law_drawn) s.heap.objs.size f cdv)) (envOfC "_law_drawn" (defScope s_law_drawn) s.heap.objs.size f cdv) (fun _ _ => False) := PassesOwn.never
  have tk : Takes (cxOf CX0 P w K mg base ["script", "k", "many", "cell", "mixed"] "_law_drawn" (defScope s_law_drawn) f cdv A outer s H E).nox W0 := takes0
  match ds, hl with
  | [a_script, a_k, a_many], _ =>
    show Ex (cxOf CX0 P w K mg base ["script", "k", "many", "cell", "mixed"] "_law_drawn" (defScope s_law_drawn) f cdv A outer s H E).nox W0 [] .R (defBody s_law_drawn) [.S 0 a_script, .S 0 a_k, .S 0 a_many, .J, .J] (f_law_drawn a_script a_k a_many) (fun _ : Unit => [.J, .J, .J, .J, .J]) (fun _ : Unit => [.J, .J, .J, .J, .J])
    unfold f_law_drawn
    exact (ex_set (n := 0) 3 (evM_O ev_int).p (fun cell95 => (ex_if (mkS := (fun s : D => [.S 0 a_script, .S 0 a_k, .S 0 a_many, .S 0 s, .J])) (evT_cmp op_gt cmp_gt (ev_len1 m (ev_var 0)) ev_int (nomark _)) (ex_set (n := 0) 3 (evM_O (ev_ix (ev_var 0) (ev_mod (ev_var 1) (ev_len1 m (ev_var 0)))).atom).p (fun cell100 => (ex_nil (.keep (.keep (.keep (.keep (.keep .nil))))))) (fun _ h => ps_set sc_law_drawn.nd rfl (by first | exact Or.inl rfl | exact Or.inr rfl) h)) (ex_nil (.keep (.keep (.keep (.keep (.keep .nil)))))) fun s99 => (ex_set (n := 0) 4 (evM_O (ev_addI (ev_addI (ev_mul (ev_var 3) (ev_addI ev_int (ev_mul ev_int (ev_mod (ev_var 1) ev_int)))) (ev_mul (ev_mul (ev_addI (ev_var 1) ev_int) (ev_addI (ev_var 1) ev_int)) ev_int)) (ev_len1 m (ev_var 0)))).p (fun mixed106 => (ex_ret (ev_mod (ev_div (ev_mod (ev_var 4) ev_int) ev_int) (ev_var 2)))) (fun _ h => ps_set sc_law_drawn.nd rfl (by first | exact Or.inl rfl | exact Or.inr rfl) h)))) (fun _ h => ps_set sc_law_drawn.nd rfl (by first | exact Or.inl rfl | exact Or.inr rfl) h))
abbrev s_law_row_by : Stmt := topS 6
theorem sc_law_row_by : FnScope ["script", "bound", "many", "number", "great", "order", "numbers", "k"] ["script", "bound"] (defScope s_law_row_by) := ⟨rfl, rfl, rfl, by decide +kernel, rfl, by decide +kernel, by decide +kernel⟩
theorem ok_law_row_by {P : Program} {w : World} {K : PySem.W.Frag} {mg : Str → Option Value} {base : Heap} (m : Bi mg) (h : Has K mg "_law_row_by" "_law_row_by" s_law_row_by ["script", "bound"]) (h_law_drawn : Does P w K mg base CX0 "_law_drawn" ["script", "k", "many"] 1 (spN K .R (fn3 f_law_drawn))) :
    Does P w K mg base CX0 "_law_row_by" ["script", "bound"] 2 (spN K (.O 1) (fn2 f_law_row_by)) := by
  refine h.ok sc_law_row_by ar2 (el := [.J, .J, .J, .J, .J, .J, .J, .J]) fun f cdv A outer s H E ds hr hl => ?_
  have hpo : PassesOwn (model P w) (A.deeper (envOfC "_law_row_by" (defScope s_law_row_by) s.heap.objs.size f cdv)) (envOfC "_law_row_by" (defScope s_law_row_by) s.heap.objs.size f cdv) (fun _ _ => False) := PassesOwn.never
  have tk : Takes (cxOf CX0 P w K mg base ["script", "bound", "many", "number", "great", "order", "numbers", "k"] "_law_row_by" (defScope s_law_row_by) f cdv A outer s H E).nox W0 := takes0
  match ds, hl with
  | [a_script, a_bound], _ =>
    show Ex (cxOf CX0 P w K mg base ["script", "bound", "many", "number", "great", "order", "numbers", "k"] "_law_row_by" (defScope s_law_row_by) f cdv A outer s H E).nox W0 [] (.O 1) (defBody s_law_row_by) [.S 0 a_script, .S 0 a_bound, .J, .J, .J, .J, .J, .J] (f_law_row_by a_script a_bound) (fun _ : Unit => [.J, .J, .J, .J, .J, .J, .J, .J]) (fun _ : Unit => [.J, .J, .J, .J, .J, .J, .J, .J])
    unfold f_law_row_by
    exact (ex_set (n := 0) 2 (evM_O (call3 h_law_drawn hr (ev_var 0) ev_int (ev_min2 m ev_int (ev_addI (ev_var 1) ev_int))).atom).p (fun many134 => (ex_if (mkS := (fun s : D => [.S 0 a_script, .S 0 a_bound, .S 0 s, .J, .J, .J, .J, .J])) (evT_cmp (op_eqD hr.units) cmp_eq (call3 h_law_drawn hr (ev_var 0) ev_int ev_int) ev_int (nomark _)) (ex_set (n := 0) 2 (evM_O (call3 h_law_drawn hr (ev_var 0) ev_int (ev_addI (ev_var 1) ev_int)).atom).p (fun many148 => (ex_nil (.keep (.keep (.keep (.keep (.keep (.keep (.keep (.keep .nil)))))))))) (fun _ h => ps_set sc_law_row_by.nd rfl (by first | exact Or.inl rfl | exact Or.inr rfl) h)) (ex_nil (.keep (.keep (.keep (.keep (.keep (.keep (.keep (.keep .nil))))))))) fun s147 => (ex_set (n := 0) 3 (evM_O (ev_sub (call3 h_law_drawn hr (ev_var 0) ev_int ev_int) ev_int)).p (fun number154 => (ex_set (n := 0) 4 (evM_O (ev_ix (ev_lstR (evL3 ev_int ev_int (ev_pow ev_int ev_int))) (call3 h_law_drawn hr (ev_var 0) ev_int ev_int)).atom).p (fun great160 => (ex_set (n := 1) 5 (evM_O (ev_lstO evL_nil)).p (fun order171 => (ex_set (n := 1) 6 (evM_O (ev_lstO evL_nil)).p (fun numbers172 => (ex_forR1 (mkS := (fun s : D × D × D => [.S 0 a_script, .S 0 a_bound, .S 0 s147, .S 0 s.1, .S 0 great160, .S 1 s.2.1, .S 1 s.2.2, .J])) 7 m.range (evL1 (ev_var 2)) (.keep (.keep (.keep (.keep (.keep (.keep (.keep (.keep .nil)))))))) (fun d174 s175 => (ex_ins 5 (recv_var 5) (call3 h_law_drawn hr (ev_var 0) (ev_addI ev_int (ev_mul ev_int (ev_var 7))) (ev_addI (ev_var 7) ev_int)) (evM_O (ev_var 7).atom) (fun order177 => (ex_set (n := 0) 3 (evM_O (ev_addI (ev_addI (ev_var 3) ev_int) (ev_mul (call3 h_law_drawn hr (ev_var 0) (ev_addI ev_int (ev_mul ev_int (ev_var 7))) ev_int) (ev_var 4)))).p (fun number187 => (ex_app 6 (recv_var 6) (evM_O (ev_var 3).atom) (fun numbers202 => (ex_nil (.keep (.keep (.keep (.keep (.keep (.keep (.keep (.drop .nil)))))))))) rfl rfl lev_none)) (fun _ h => ps_set sc_law_row_by.nd rfl (by first | exact Or.inl rfl | exact Or.inr rfl) h))) rfl rfl lev_none)) (fun s203 => (ex_ret (ev_lc (ev_var 5) sc_law_row_by.nd (blkOk_by (N := ["script", "bound", "many", "number", "great", "order", "numbers", "k"]) (sc := defScope s_law_row_by) (by decide +kernel)) (by rfl) (fun _ _ _ _ _ d204 => (ev_ix (ev_var 6) (ev_var 7)).atom) (fun _ _ _ _ _ => pg_name (i := 7) sc_law_row_by.nd rfl (by first | exact Or.inl rfl | exact Or.inr rfl))).ev)) (fun _ => (by decide : 7 < 8)) hpo (pg_name (i := 7) sc_law_row_by.nd rfl (by first | exact Or.inl rfl | exact Or.inr rfl)))) (fun _ h => ps_set sc_law_row_by.nd rfl (by first | exact Or.inl rfl | exact Or.inr rfl) h))) (fun _ h => ps_set sc_law_row_by.nd rfl (by first | exact Or.inl rfl | exact Or.inr rfl) h))) (fun _ h => ps_set sc_law_row_by.nd rfl (by first | exact Or.inl rfl | exact Or.inr rfl) h))) (fun _ h => ps_set sc_law_row_by.nd rfl (by first | exact Or.inl rfl | exact Or.inr rfl) h)))) (fun _ h => ps_set sc_law_row_by.nd rfl (by first | exact Or.inl rfl | exact Or.inr rfl) h))
abbrev s_law_lay : Stmt := topS 7
theorem sc_law_lay : FnScope ["rows", "number", "made", "at", "greater", "place", "row", "other"] ["rows", "number"] (defScope s_law_lay) := ⟨rfl, rfl, rfl, by decide +kernel, rfl, by decide +kernel, by decide +kernel⟩
theorem ok_law_lay {P : Program} {w : World} {K : PySem.W.Frag} {mg : Str → Option Value} {base : Heap} (m : Bi mg) (h : Has K mg "_law_lay" "_law_lay" s_law_lay ["rows", "number"]) :
    Does P w K mg base CX0 "_law_lay" ["rows", "number"] 1 (spN K (.O 3) (fn2 f_law_lay)) := by
  refine h.ok sc_law_lay ar2 (el := [.J, .J, .J, .J, .J, .J, .J, .J]) fun f cdv A outer s H E ds hr hl => ?_
  have hpo : PassesOwn (model P w) (A.deeper (envOfC "_law_lay" (defScope s_law_lay) s.heap.objs.size f cdv)) (envOfC "_law_lay" (defScope s_law_lay) s.heap.objs.size f cdv) (fun _ _ => False) := PassesOwn.never
  have tk : Takes (cxOf CX0 P w K mg base ["rows", "number", "made", "at", "greater", "place", "row", "other"] "_law_lay" (defScope s_law_lay) f cdv A outer s H E).nox W0 := takes0
  match ds, hl with
  | [a_rows, a_number], _ =>
    show Ex (cxOf CX0 P w K mg base ["rows", "number", "made", "at", "greater", "place", "row", "other"] "_law_lay" (defScope s_law_lay) f cdv A outer s H E).nox W0 [] (.O 3) (defBody s_law_lay) [.S 0 a_rows, .S 0 a_number, .J, .J, .J, .J, .J, .J] (f_law_lay a_rows a_number) (fun _ : Unit => [.J, .J, .J, .J, .J, .J, .J, .J]) (fun _ : Unit => [.J, .J, .J, .J, .J, .J, .J, .J])
    unfold f_law_lay
    exact (ex_setC (n := 2) 2 (ev_lc (ev_var 0) sc_law_lay.nd (blkOk_by (N := ["rows", "number", "made", "at", "greater", "place", "row", "other"]) (sc := defScope s_law_lay) (by decide +kernel)) (by rfl) (fun _ _ _ _ _ d210 => (ev_list1 m (ev_var 6))) (fun _ _ _ _ _ => pg_name (i := 6) sc_law_lay.nd rfl (by first | exact Or.inl rfl | exact Or.inr rfl))) (fun made209 => (ex_set (n := 0) 3 (evM_O ev_int).p (fun v_at212 => (ex_while (mkS := (fun s : D × D × D => [.S 0 a_rows, .S 0 s.1, .S 2 s.2.1, .S 0 s.2.2, .J, .J, .J, .J])) (.keep (.keep (.keep (.keep (.keep (.keep (.keep (.keep .nil)))))))) (fun s213 => (evT_cmp op_lt cmp_lt (ev_var 3) (ev_len1 m (ev_var 2)) (nomark _))) (fun s214 => (ex_setC (n := 1) 4 (ev_lcIf (ev_ix (ev_var 2) (ev_var 3)) sc_law_lay.nd (blkOk_by (N := ["rows", "number", "made", "at", "greater", "place", "row", "other"]) (sc := defScope s_law_lay) (by decide +kernel)) (by rfl) (fun _ _ _ _ _ d220 => (evT_cmp op_gt cmp_gt (ev_var 7) (ev_var 1) (nomark _))) (fun _ _ _ _ _ d220 => (ev_var 7).atom) (fun _ _ _ _ _ => pg_name (i := 7) sc_law_lay.nd rfl (by first | exact Or.inl rfl | exact Or.inr rfl))) (fun greater219 => (ex_frz 4 (ex_if (mkS := (fun s : D => [.S 0 a_rows, .S 0 s214.1, .S 2 s, .S 0 s214.2.2, .S 0 greater219, .J, .J, .J])) (evT_cmp (op_eqD hr.units) cmp_eq (ev_len1 m (ev_var 4)) ev_int (nomark _)) (ex_app 2 (recv_ix 2 (ev_var 3)) (evM_O (ev_var 1).atom) (fun made232 => (ex_retP (evP_tupA (evM_var 2) (ev_var 3)))) rfl rfl lev_some) (ex_nil (.keep (.keep (.keep (.keep (.keep (.keep (.keep (.keep .nil))))))))) fun s228 => (ex_set (n := 0) 5 (evM_O (ev_sub (ev_len1 m (ev_ix (ev_var 2) (ev_var 3))) (ev_len1 m (ev_var 4)))).p (fun place235 => (ex_ix 2 (evM_O (ev_var 1).atom) (recv_ix 2 (ev_var 3)) (ev_var 5) (fun made247 => (ex_set (n := 0) 1 (evM_O (ev_ix (ev_var 4) ev_int).atom).p (fun number248 => (ex_set (n := 0) 3 (evM_O (ev_addI (ev_var 3) ev_int)).p (fun v_at251 => (ex_nil (.keep (.keep (.keep (.keep (.drop (.drop (.keep (.keep .nil)))))))))) (fun _ h => ps_set sc_law_lay.nd rfl (by first | exact Or.inl rfl | exact Or.inr rfl) h))) (fun _ h => ps_set sc_law_lay.nd rfl (by first | exact Or.inl rfl | exact Or.inr rfl) h))) rfl lev_some)) (fun _ h => ps_set sc_law_lay.nd rfl (by first | exact Or.inl rfl | exact Or.inr rfl) h))))) rfl rfl (sw_true rfl rfl rfl (by decide +kernel)))) (fun s215 => (ex_retP (evP_tupA (evM_cat 2 (ev_lstO (evL1 (ev_lstO (evL1 (ev_var 1).atom)) star_L))) (ev_var 3)))) hpo)) (fun _ h => ps_set sc_law_lay.nd rfl (by first | exact Or.inl rfl | exact Or.inr rfl) h))) rfl rfl (sw_true rfl rfl rfl (by decide +kernel)))
abbrev s_law_laid : Stmt := topS 8
theorem sc_law_laid : FnScope ["row", "first", "second", "k", "grown"] ["row"] (defScope s_law_laid) := ⟨rfl, rfl, rfl, by decide +kernel, rfl, by decide +kernel, by decide +kernel⟩
theorem ok_law_laid {P : Program} {w : World} {K : PySem.W.Frag} {mg : Str → Option Value} {base : Heap} (m : Bi mg) (h : Has K mg "_law_laid" "_law_laid" s_law_laid ["row"]) (h_law_lay : Does P w K mg base CX0 "_law_lay" ["rows", "number"] 1 (spN K (.O 3) (fn2 f_law_lay))) :
    Does P w K mg base CX0 "_law_laid" ["row"] 2 (spN K (.O 3) (fn1 f_law_laid)) := by
  refine h.ok sc_law_laid ar1 (el := [.J, .J, .J, .J, .J]) fun f cdv A outer s H E ds hr hl => ?_
  have hpo : PassesOwn (model P w) (A.deeper (envOfC "_law_laid" (defScope s_law_laid) s.heap.objs.size f cdv)) (envOfC "_law_laid" (defScope s_law_laid) s.heap.objs.size f cdv) (fun _ _ => False) := PassesOwn.never
  have tk : Takes (cxOf CX0 P w K mg base ["row", "first", "second", "k", "grown"] "_law_laid" (defScope s_law_laid) f cdv A outer s H E).nox W0 := takes0
  match ds, hl with
  | [a_row], _ =>
    show Ex (cxOf CX0 P w K mg base ["row", "first", "second", "k", "grown"] "_law_laid" (defScope s_law_laid) f cdv A outer s H E).nox W0 [] (.O 3) (defBody s_law_laid) [.S 0 a_row, .J, .J, .J, .J] (f_law_laid a_row) (fun _ : Unit => [.J, .J, .J, .J, .J]) (fun _ : Unit => [.J, .J, .J, .J, .J])
    unfold f_law_laid
    exact (ex_set (n := 2) 1 (evM_O (ev_lstO evL_nil)).p (fun first259 => (ex_set (n := 2) 2 (evM_O (ev_lstO evL_nil)).p (fun second260 => (ex_forR1 (mkS := (fun s : D × D => [.S 0 a_row, .S 2 s.1, .S 2 s.2, .J, .J])) 3 m.range (evL1 (ev_len1 m (ev_var 0))) (.keep (.keep (.keep (.keep (.keep .nil))))) (fun d263 s264 => (ex_set (n := 3) 4 (evM_O (call2 h_law_lay hr (ev_var 1) (ev_ix (ev_var 0) (ev_var 3)))).p (fun grown265 => (ex_set (n := 2) 1 (evM_item (j := 0) 4).p (fun first270 => (ex_if (mkS := (fun s : D => [.S 0 a_row, .S 2 first270, .S 2 s, .S 0 d263, .S 3 (holeAt 0 grown265)])) (evT_cmp (op_eqD hr.units) cmp_eq (ev_ix (ev_var 4) ev_int) (ev_len1 m (ev_var 2)) (nomark _)) (ex_app 2 (recv_var 2) (evM_O (ev_lstO evL_nil)) (fun second278 => (ex_nil (.keep (.keep (.keep (.keep (.keep .nil))))))) rfl rfl lev_none) (ex_nil (.keep (.keep (.keep (.keep (.keep .nil)))))) fun s276 => (ex_app 2 (recv_ix 2 (ev_ix (ev_var 4) ev_int)) (evM_O (ev_addI (ev_var 3) ev_int)) (fun second284 => (ex_nil (.keep (.keep (.keep (.drop (.drop .nil))))))) rfl rfl lev_some))) (fun _ h => ps_set sc_law_laid.nd rfl (by first | exact Or.inl rfl | exact Or.inr rfl) h))) (fun _ h => ps_set sc_law_laid.nd rfl (by first | exact Or.inl rfl | exact Or.inr rfl) h))) (fun s287 => (ex_retP (evP_tupV 2 (evM_var 1)))) (fun _ => (by decide : 3 < 5)) hpo (pg_name (i := 3) sc_law_laid.nd rfl (by first | exact Or.inl rfl | exact Or.inr rfl)))) (fun _ h => ps_set sc_law_laid.nd rfl (by first | exact Or.inl rfl | exact Or.inr rfl) h))) (fun _ h => ps_set sc_law_laid.nd rfl (by first | exact Or.inl rfl | exact Or.inr rfl) h))
abbrev s_law_spoilt_by : Stmt := topS 9
theorem sc_law_spoilt_by : FnScope ["script", "rows", "way", "at", "j", "other", "m", "kept"] ["script", "rows"] (defScope s_law_spoilt_by) := ⟨rfl, rfl, rfl, by decide +kernel, rfl, by decide +kernel, by decide +kernel⟩
theorem ok_law_spoilt_by {P : Program} {w : World} {K : PySem.W.Frag} {mg : Str → Option Value} {base : Heap} (m : Bi mg) (h : Has K mg "_law_spoilt_by" "_law_spoilt_by" s_law_spoilt_by ["script", "rows"]) (h_law_drawn : Does P w K mg base CX0 "_law_drawn" ["script", "k", "many"] 1 (spN K .R (fn3 f_law_drawn))) :
    Does P w K mg base CX0 "_law_spoilt_by" ["script", "rows"] 2 (spJ K 1 (fn2 f_law_spoilt_by)) := by
  obtain ⟨f0, fd0, hm0, F0, b0⟩ := h
  refine ⟨f0, fd0, hm0, F0.kp, b0, ?_⟩
  refine def_okJ (kk := 1) (n := 1) (g := fn2 f_law_spoilt_by) (el := [.J, .J, .J, .J, .J, .J, .J, .J]) F0 sc_law_spoilt_by rfl ?_
  intro cdv A outer s H E a_script a_rows hr
  have hpo : PassesOwn (model P w) (A.deeper (envOfC "_law_spoilt_by" (defScope s_law_spoilt_by) s.heap.objs.size f0 cdv)) (envOfC "_law_spoilt_by" (defScope s_law_spoilt_by) s.heap.objs.size f0 cdv) (fun _ _ => False) := PassesOwn.never
  have tk : Takes (cxOf CX0 P w K mg base ["script", "rows", "way", "at", "j", "other", "m", "kept"] "_law_spoilt_by" (defScope s_law_spoilt_by) f0 cdv A outer s H E).nox W0 := takes0
  show Ex (cxOf CX0 P w K mg base ["script", "rows", "way", "at", "j", "other", "m", "kept"] "_law_spoilt_by" (defScope s_law_spoilt_by) f0 cdv A outer s H E).nox W0 [] .R (defBody s_law_spoilt_by) [.S 0 a_script, .S 2 a_rows, .J, .J, .J, .J, .J, .J] (f_law_spoilt_by a_script a_rows) (fun _ : Unit => [.J, .J, .J, .J, .J, .J, .J, .J]) (fun _ : Unit => [.J, .J, .J, .J, .J, .J, .J, .J])
  unfold f_law_spoilt_by
  exact (ex_set (n := 0) 2 (evM_O (call3 h_law_drawn hr (ev_var 0) ev_int ev_int).atom).p (fun way291 => (ex_if (mkS := (fun s : Unit => [.S 0 a_script, .S 2 a_rows, .S 0 way291, .J, .J, .J, .J, .J])) (evT_cmp (op_eqD hr.units) cmp_eq (ev_len1 m (ev_varU 1)) ev_int (nomark _)) (by
    refine ex_ret ?_
    refine ev_ix ?_ ?_
    · refine ev_lstR ?_
      refine evL_cons ?_ ?_ ?_
      · refine ev_lstR ?_
        exact evL_nil
      · refine evL_cons ?_ ?_ ?_
        · refine ev_lstR ?_
          refine evL1 ?_ ?_
          · refine ev_lstR ?_
            exact evL_nil
          exact star_L
        · refine evL_cons ?_ ?_ ?_
          · refine ev_lstR ?_
            refine evL1 ?_ ?_
            · refine ev_lstR ?_
              refine evL1 ?_ ?_
              · exact ev_int
              exact rfl
            exact star_L
          · refine evL_cons ?_ ?_ ?_
            · refine ev_lstR ?_
              refine evL2 ?_ ?_ ?_ ?_
              · refine ev_lstR ?_
                refine evL1 ?_ ?_
                · exact ev_int
                exact rfl
              · refine ev_lstR ?_
                refine evL1 ?_ ?_
                · exact ev_int
                exact rfl
              · exact star_L
              · exact star_L
            · refine evL_cons ?_ ?_ ?_
              · refine ev_lstR ?_
                refine evL1 ?_ ?_
                · refine ev_lstR ?_
                  refine evL2 ?_ ?_ ?_ ?_
                  · exact ev_int
                  · exact ev_int
                  · exact rfl
                  · exact rfl
                exact star_L
              · exact evL_nil
              · exact star_L
            · exact star_L
          · exact star_L
        · exact star_L
      · exact star_L
    · exact ev_var 2) (ex_nil (.keep (.keep (.keep (.keep (.keep (.keep (.keep (.keep .nil))))))))) fun s298 => (ex_set (n := 0) 3 (evM_O (call3 h_law_drawn hr (ev_var 0) ev_int (ev_len1 m (ev_varU 1))).atom).p (fun v_at326 => (ex_set (n := 0) 4 (evM_O (call3 h_law_drawn hr (ev_var 0) ev_int (ev_len1 m (ev_ix (ev_varU 1) (ev_var 3)))).atom).p (fun j331 => (ex_set (n := 0) 5 (evM_O (call3 h_law_drawn hr (ev_var 0) ev_int (ev_len1 m (ev_varU 1))).atom).p (fun other338 => (ex_set (n := 0) 6 (evM_O (call3 h_law_drawn hr (ev_var 0) ev_int (ev_len1 m (ev_ix (ev_varU 1) (ev_var 5)))).atom).p (fun m343 => (ex_if (mkS := (fun s : D => [.S 0 a_script, .S 2 s, .S 0 way291, .S 0 v_at326, .S 0 j331, .S 0 other338, .S 0 m343, .J])) (evT_cmp (op_eqD hr.units) cmp_eq (ev_var 2) ev_int (nomark _)) (ex_ix 1 (evM_O (ev_sub (ev_addI (ev_ix (ev_ix (ev_varU 1) (ev_var 5)) (ev_var 6)) (call3 h_law_drawn hr (ev_var 0) ev_int ev_int)) ev_int)) (recv_ix 1 (ev_var 3)) (ev_var 4) (fun rows369 => (ex_nil (.keep (.keep (.keep (.keep (.keep (.keep (.keep (.keep .nil)))))))))) rfl lev_some) (ex_nil (.keep (.keep (.keep (.keep (.keep (.keep (.keep (.keep .nil))))))))) fun s352 => (ex_if (mkS := (fun s : D => [.S 0 a_script, .S 2 s, .S 0 way291, .S 0 v_at326, .S 0 j331, .S 0 other338, .S 0 m343, .J])) (evT_cmp (op_eqD hr.units) cmp_eq (ev_var 2) ev_int (nomark _)) (ex_set (n := 0) 7 (evM_O (ev_ix (ev_ix (ev_varU 1) (ev_var 3)) (ev_var 4)).atom).p (fun kept373 => (ex_ix 1 (evM_O (ev_ix (ev_ix (ev_varU 1) (ev_var 5)) (ev_var 6)).atom) (recv_ix 1 (ev_var 3)) (ev_var 4) (fun rows387 => (ex_ix 1 (evM_O (ev_var 7).atom) (recv_ix 1 (ev_var 5)) (ev_var 6) (fun rows393 => (ex_nil (.keep (.keep (.keep (.keep (.keep (.keep (.keep (.drop .nil)))))))))) rfl lev_some)) rfl lev_some)) (fun _ h => ps_set sc_law_spoilt_by.nd rfl (by first | exact Or.inl rfl | exact Or.inr rfl) h)) (ex_nil (.keep (.keep (.keep (.keep (.keep (.keep (.keep (.keep .nil))))))))) fun s372 => (ex_if (mkS := (fun s : D => [.S 0 a_script, .S 2 s, .S 0 way291, .S 0 v_at326, .S 0 j331, .S 0 other338, .S 0 m343, .J])) (evT_cmp (op_eqD hr.units) cmp_eq (ev_var 2) ev_int (nomark _)) (ex_insP 1 (ev_var 5) (evP_popAt 1 (ev_var 3)) fun rows398 => (ex_nil (.keep (.keep (.keep (.keep (.keep (.keep (.keep (.keep .nil)))))))))) (ex_nil (.keep (.keep (.keep (.keep (.keep (.keep (.keep (.keep .nil))))))))) fun s396 => (ex_if (mkS := (fun s : D => [.S 0 a_script, .S 2 s, .S 0 way291, .S 0 v_at326, .S 0 j331, .S 0 other338, .S 0 m343, .J])) (evT_cmp (op_eqD hr.units) cmp_eq (ev_var 2) ev_int (nomark _)) (ex_ins 1 (recv_var 1) (ev_var 3) (evM_O (ev_lstO evL_nil)) (fun rows403 => (ex_nil (.keep (.keep (.keep (.keep (.keep (.keep (.keep (.keep .nil)))))))))) rfl rfl lev_none) (ex_nil (.keep (.keep (.keep (.keep (.keep (.keep (.keep (.keep .nil))))))))) fun s401 => (ex_ret (ev_varU 1))))))) (fun _ h => ps_set sc_law_spoilt_by.nd rfl (by first | exact Or.inl rfl | exact Or.inr rfl) h))) (fun _ h => ps_set sc_law_spoilt_by.nd rfl (by first | exact Or.inl rfl | exact Or.inr rfl) h))) (fun _ h => ps_set sc_law_spoilt_by.nd rfl (by first | exact Or.inl rfl | exact Or.inr rfl) h))) (fun _ h => ps_set sc_law_spoilt_by.nd rfl (by first | exact Or.inl rfl | exact Or.inr rfl) h)))) (fun _ h => ps_set sc_law_spoilt_by.nd rfl (by first | exact Or.inl rfl | exact Or.inr rfl) h))
abbrev s_law_shape : Stmt := topS 10
theorem sc_law_shape : FnScope ["rows", "k", "row"] ["rows"] (defScope s_law_shape) := ⟨rfl, rfl, rfl, by decide +kernel, rfl, by decide +kernel, by decide +kernel⟩
theorem ok_law_shape {P : Program} {w : World} {K : PySem.W.Frag} {mg : Str → Option Value} {base : Heap} (m : Bi mg) (h : Has K mg "_law_shape" "_law_shape" s_law_shape ["rows"]) :
    Does P w K mg base CX0 "_law_shape" ["rows"] 1 (spN K .R (fn1 f_law_shape)) := by
  refine h.ok sc_law_shape ar1 (el := [.J, .J, .J]) fun f cdv A outer s H E ds hr hl => ?_
  have hpo : PassesOwn (model P w) (A.deeper (envOfC "_law_shape" (defScope s_law_shape) s.heap.objs.size f cdv)) (envOfC "_law_shape" (defScope s_law_shape) s.heap.objs.size f cdv) (fun _ _ => False) := PassesOwn.never
  have tk : Takes (cxOf CX0 P w K mg base ["rows", "k", "row"] "_law_shape" (defScope s_law_shape) f cdv A outer s H E).nox W0 := takes0
  match ds, hl with
  | [a_rows], _ =>
    show Ex (cxOf CX0 P w K mg base ["rows", "k", "row"] "_law_shape" (defScope s_law_shape) f cdv A outer s H E).nox W0 [] .R (defBody s_law_shape) [.S 0 a_rows, .J, .J] (f_law_shape a_rows) (fun _ : Unit => [.J, .J, .J]) (fun _ : Unit => [.J, .J, .J])
    unfold f_law_shape
    exact (ex_forR1 (mkS := (fun s : Unit => [.S 0 a_rows, .J, .J])) 1 m.range (evL1 (ev_len1 m (ev_var 0))) (.keep (.keep (.keep .nil))) (fun d406 s407 => (ex_if (mkS := (fun s : Unit => [.S 0 a_rows, .S 0 d406, .J])) (evW_or (evT_cmp (op_eqD hr.units) cmp_eq (ev_len1 m (ev_ix (ev_var 0) (ev_var 1))) ev_int (nomark _)) (evW_or1 (evT_cmp op_gt cmp_gt (ev_len1 m (ev_lcF (ev_cutR (ev_var 0) part_none (part_some (ev_var 1))) sc_law_shape.nd (blkOk_by (N := ["rows", "k", "row"]) (sc := defScope s_law_shape) (by decide +kernel)) (by rfl) (fun _ _ _ _ _ d408 => (evT_cmp op_lt cmp_lt (ev_len1 m (ev_var 2)) (ev_len1 m (ev_ix (ev_var 0) (ev_var 1))) (nomark _))) (fun _ _ _ _ _ => pv 2) (fun _ _ _ _ _ => pg_name (i := 2) sc_law_shape.nd rfl (by first | exact Or.inl rfl | exact Or.inr rfl))).ev) ev_int (nomark _)))).t (ex_ret ev_bl) (ex_nil (.keep (.keep (.keep .nil)))) fun s429 => (ex_nil (.keep (.drop (.keep .nil)))))) (fun s430 => (ex_ret ev_bl)) (fun _ => (by decide : 1 < 3)) hpo (pg_name (i := 1) sc_law_shape.nd rfl (by first | exact Or.inl rfl | exact Or.inr rfl)))
abbrev s_law_stairs : Stmt := topS 11
theorem sc_law_stairs : FnScope ["rows", "spots", "at", "one", "two", "here", "there", "j"] ["rows"] (defScope s_law_stairs) := ⟨rfl, rfl, rfl, by decide +kernel, rfl, by decide +kernel, by decide +kernel⟩
theorem ok_law_stairs {P : Program} {w : World} {K : PySem.W.Frag} {mg : Str → Option Value} {base : Heap} (m : Bi mg) (h : Has K mg "_law_stairs" "_law_stairs" s_law_stairs ["rows"]) (h_law_shape : Does P w K mg base CX0 "_law_shape" ["rows"] 1 (spN K .R (fn1 f_law_shape))) :
    Does P w K mg base CX0 "_law_stairs" ["rows"] 2 (spN K .R (fn1 f_law_stairs_k01)) := by
  refine h.ok sc_law_stairs ar1 (el := [.J, .J, .J, .J, .J, .J, .J, .J]) fun f cdv A outer s H E ds hr hl => ?_
  have hpo : PassesOwn (model P w) (A.deeper (envOfC "_law_stairs" (defScope s_law_stairs) s.heap.objs.size f cdv)) (envOfC "_law_stairs" (defScope s_law_stairs) s.heap.objs.size f cdv) (fun _ _ => False) := PassesOwn.never
  have tk : Takes (cxOf CX0 P w K mg base ["rows", "spots", "at", "one", "two", "here", "there", "j"] "_law_stairs" (defScope s_law_stairs) f cdv A outer s H E).nox W0 := takes0
  match ds, hl with
  | [a_rows], _ =>
    show Ex (cxOf CX0 P w K mg base ["rows", "spots", "at", "one", "two", "here", "there", "j"] "_law_stairs" (defScope s_law_stairs) f cdv A outer s H E).nox W0 [] .R (defBody s_law_stairs) [.S 0 a_rows, .J, .J, .J, .J, .J, .J, .J] (f_law_stairs_k01 a_rows) (fun _ : Unit => [.J, .J, .J, .J, .J, .J, .J, .J]) (fun _ : Unit => [.J, .J, .J, .J, .J, .J, .J, .J])
    unfold f_law_stairs_k01
    exact (ex_if (mkS := (fun s : Unit => [.S 0 a_rows, .J, .J, .J, .J, .J, .J, .J])) (evT_not (evT_val (call1 h_law_shape hr (ev_var 0)))) (ex_ret ev_bl) (ex_nil (.keep (.keep (.keep (.keep (.keep (.keep (.keep (.keep .nil))))))))) fun s435 => (ex_set (n := 2) 1 (evM_O (ev_lstO evL_nil)).p (fun spots436 => (ex_forR1 (mkS := (fun s : D => [.S 0 a_rows, .S 2 s, .J, .J, .J, .J, .J, .J])) 2 m.range (evL1 (ev_len1 m (ev_var 0))) (.keep (.keep (.keep (.keep (.keep (.keep (.keep (.keep .nil)))))))) (fun d439 s440 => (ex_extO 1 (recv_var 1) (ev_lcR m.range (evL1 (ev_len1 m (ev_ix (ev_var 0) (ev_var 2)))) sc_law_stairs.nd (blkOk_by (N := ["rows", "spots", "at", "one", "two", "here", "there", "j"]) (sc := defScope s_law_stairs) (by decide +kernel)) (by rfl) (fun _ _ _ _ _ d443 => (ev_lstO (evL2 (ev_var 2).atom (ev_var 7).atom))) (fun _ _ _ _ _ => pg_name (i := 7) sc_law_stairs.nd rfl (by first | exact Or.inl rfl | exact Or.inr rfl))).ev (fun spots442 => (ex_nil (.keep (.keep (.drop (.keep (.keep (.keep (.keep (.keep .nil)))))))))) rfl lev_none)) (fun s451 => (ex_frz 1 (ex_for (mkS := (fun s : Unit => [.S 0 a_rows, .S 0 s451, .J, .J, .J, .J, .J, .J])) 3 (evM_S (evS_var 1)) (.keep (.keep (.keep (.keep (.keep (.keep (.keep (.keep .nil)))))))) (fun d452 s453 => (ex_for (mkS := (fun s : Unit => [.S 0 a_rows, .S 0 s451, .J, .S 0 d452, .J, .J, .J, .J])) 4 (evM_S (evS_var 1)) (.keep (.keep (.keep (.keep (.keep (.keep (.keep (.keep .nil)))))))) (fun d454 s455 => (ex_set (n := 0) 5 (evM_O (ev_ix (ev_ix (ev_var 0) (ev_ix (ev_var 3) ev_int)) (ev_ix (ev_var 3) ev_int)).atom).p (fun here456 => (ex_set (n := 0) 6 (evM_O (ev_ix (ev_ix (ev_var 0) (ev_ix (ev_var 4) ev_int)) (ev_ix (ev_var 4) ev_int)).atom).p (fun there465 => (ex_if (mkS := (fun s : Unit => [.S 0 a_rows, .S 0 s451, .J, .S 0 d452, .S 0 d454, .S 0 here456, .S 0 there465, .J])) (evW_and (evT_cmp (op_neD hr.units) cmp_ne (ev_var 3) (ev_var 4) (nomark _)) (evW_and1 (evT_cmp (op_eqD hr.units) cmp_eq (ev_var 5) (ev_var 6) (nomark _)))).t (ex_ret ev_bl) (ex_nil (.keep (.keep (.keep (.keep (.keep (.keep (.keep (.keep .nil))))))))) fun s479 => (ex_if (mkS := (fun s : Unit => [.S 0 a_rows, .S 0 s451, .J, .S 0 d452, .S 0 d454, .S 0 here456, .S 0 there465, .J])) (evW_and (evT_cmp (op_neD hr.units) cmp_ne (ev_var 3) (ev_var 4) (nomark _)) (evW_and (evT_cmp op_le cmp_le (ev_ix (ev_var 3) ev_int) (ev_ix (ev_var 4) ev_int) (nomark _)) (evW_and (evT_cmp op_le cmp_le (ev_ix (ev_var 3) ev_int) (ev_ix (ev_var 4) ev_int) (nomark _)) (evW_and1 (evT_cmp op_gt cmp_gt (ev_var 5) (ev_var 6) (nomark _)))))).t (ex_ret ev_bl) (ex_nil (.keep (.keep (.keep (.keep (.keep (.keep (.keep (.keep .nil))))))))) fun s499 => (ex_nil (.keep (.keep (.keep (.keep (.drop (.drop (.drop (.keep .nil)))))))))))) (fun _ h => ps_set sc_law_stairs.nd rfl (by first | exact Or.inl rfl | exact Or.inr rfl) h))) (fun _ h => ps_set sc_law_stairs.nd rfl (by first | exact Or.inl rfl | exact Or.inr rfl) h))) (fun s500 => (ex_nil (.keep (.keep (.keep (.drop (.keep (.keep (.keep (.keep .nil)))))))))) (fun _ => (by decide : 4 < 8)) hpo (pg_name (i := 4) sc_law_stairs.nd rfl (by first | exact Or.inl rfl | exact Or.inr rfl)))) (fun s503 => (ex_ret ev_bl)) (fun _ => (by decide : 3 < 8)) hpo (pg_name (i := 3) sc_law_stairs.nd rfl (by first | exact Or.inl rfl | exact Or.inr rfl))))) (fun _ => (by decide : 2 < 8)) hpo (pg_name (i := 2) sc_law_stairs.nd rfl (by first | exact Or.inl rfl | exact Or.inr rfl)))) (fun _ h => ps_set sc_law_stairs.nd rfl (by first | exact Or.inl rfl | exact Or.inr rfl) h)))
abbrev s_law : Stmt := topS 12
theorem sc_law : FnScope ["script", "rows", "lengths", "handed", "told", "found", "row"] ["script"] (defScope s_law) := ⟨rfl, rfl, rfl, by decide +kernel, rfl, by decide +kernel, by decide +kernel⟩
theorem ok_law {P : Program} {w : World} {K : PySem.W.Frag} {mg : Str → Option Value} {base : Heap} {f : Addr} {fd : FuncData} (m : Bi mg) (F : Fun K "law" "law" s_law f fd) (h_is_shape : Does P w K mg base CX0 "is_shape" ["lengths"] 1 (spN K .R (fn1 f_is_shape))) (h_is_stairs : Does P w K mg base CX0 "is_stairs" ["rows"] 2 (spN K .R (fn1 f_is_stairs))) (h_law_row_by : Does P w K mg base CX0 "_law_row_by" ["script", "bound"] 2 (spN K (.O 1) (fn2 f_law_row_by))) (h_law_laid : Does P w K mg base CX0 "_law_laid" ["row"] 2 (spN K (.O 3) (fn1 f_law_laid))) (h_law_spoilt_by : Does P w K mg base CX0 "_law_spoilt_by" ["script", "rows"] 2 (spJ K 1 (fn2 f_law_spoilt_by))) (h_law_shape : Does P w K mg base CX0 "_law_shape" ["rows"] 1 (spN K .R (fn1 f_law_shape))) (h_law_stairs : Does P w K mg base CX0 "_law_stairs" ["rows"] 2 (spN K .R (fn1 f_law_stairs_k01))) :
    FnOk P w K mg base CX0 3 f fd ["script"] (spN K .R (fn1 f_law_k01)) := by
  refine def_ok F sc_law ar1 (el := [.J, .J, .J, .J, .J, .J, .J]) fun cdv A outer s H E ds hr hl => ?_
  have hpo : PassesOwn (model P w) (A.deeper (envOfC "law" (defScope s_law) s.heap.objs.size f cdv)) (envOfC "law" (defScope s_law) s.heap.objs.size f cdv) (fun _ _ => False) := PassesOwn.never
  have tk : Takes (cxOf CX0 P w K mg base ["script", "rows", "lengths", "handed", "told", "found", "row"] "law" (defScope s_law) f cdv A outer s H E).nox W0 := takes0
  match ds, hl with
  | [a_script], _ =>
    show Ex (cxOf CX0 P w K mg base ["script", "rows", "lengths", "handed", "told", "found", "row"] "law" (defScope s_law) f cdv A outer s H E).nox W0 [] .R (defBody s_law) [.S 0 a_script, .J, .J, .J, .J, .J, .J] (f_law_k01 a_script) (fun _ : Unit => [.J, .J, .J, .J, .J, .J, .J]) (fun _ : Unit => [.J, .J, .J, .J, .J, .J, .J])
    unfold f_law_k01
    exact (ex_set (n := 0) 1 (evM_rd (by exact trivial) (ev_callJ h_law_spoilt_by hr (ev_var 0) (ev_ixO (j := 0) (call1 h_law_laid hr (call2 h_law_row_by hr (ev_var 0) ev_int).toR)))).p (fun rows508 => (ex_setC (n := 1) 2 (ev_lc (ev_var 1) sc_law.nd (blkOk_by (N := ["script", "rows", "lengths", "handed", "told", "found", "row"]) (sc := defScope s_law) (by decide +kernel)) (by rfl) (fun _ _ _ _ _ d515 => (ev_len1 m (ev_var 6))) (fun _ _ _ _ _ => pg_name (i := 6) sc_law.nd rfl (by first | exact Or.inl rfl | exact Or.inr rfl))) (fun lengths514 => (ex_frz 2 (ex_setC (n := 2) 3 (ev_lc (ev_var 1) sc_law.nd (blkOk_by (N := ["script", "rows", "lengths", "handed", "told", "found", "row"]) (sc := defScope s_law) (by decide +kernel)) (by rfl) (fun _ _ _ _ _ d518 => (ev_list1 m (ev_var 6))) (fun _ _ _ _ _ => pg_name (i := 6) sc_law.nd rfl (by first | exact Or.inl rfl | exact Or.inr rfl))) (fun handed517 => (ex_frz 3 (ex_set (n := 1) 4 (evM_O (ev_list1 m (ev_var 2))).p (fun told520 => (ex_frz 4 (ex_set (n := 0) 5 (evM_O (call1 h_is_shape hr (ev_var 4)).atom).p (fun found522 => (ex_if (mkS := (fun s : Unit => [.S 0 a_script, .S 0 rows508, .S 0 lengths514, .S 0 handed517, .S 0 told520, .S 0 found522, .J])) (evW_or (evT_not (evT_val (ev_isi (T := "bool") m.isinstance m.bool (by decide +kernel) (ev_var 5)))) (evW_or (evT_cmp (op_neD hr.units) cmp_ne (ev_var 5) (call1 h_law_shape hr (ev_var 1)) (nomark _)) (evW_or1 (evT_cmp (op_neD hr.units) cmp_ne (ev_var 4) (ev_var 2) (nomark _))))).t (ex_ret ev_bl) (ex_nil (.keep (.keep (.keep (.keep (.keep (.keep (.keep .nil)))))))) fun s533 => (ex_set (n := 0) 5 (evM_O (call1 h_is_stairs hr (ev_var 3)).atom).p (fun found534 => (ex_ret (ev_and (ev_isi (T := "bool") m.isinstance m.bool (by decide +kernel) (ev_var 5)) (ev_and (ev_cmp (op_eqD hr.units) cmp_eq (ev_var 5) (call1 h_law_stairs hr (ev_var 1)) (nomark _)) (ev_one (ev_cmp (op_eqD hr.units) cmp_eq (ev_var 3) (ev_var 1) (nomark _))))))) (fun _ h => ps_set sc_law.nd rfl (by first | exact Or.inl rfl | exact Or.inr rfl) h)))) (fun _ h => ps_set sc_law.nd rfl (by first | exact Or.inl rfl | exact Or.inr rfl) h)))) (fun _ h => ps_set sc_law.nd rfl (by first | exact Or.inl rfl | exact Or.inr rfl) h)))) rfl rfl (sw_true rfl rfl rfl (by decide +kernel))))) rfl rfl (sw_true rfl rfl rfl (by decide +kernel)))) (fun _ h => ps_set sc_law.nd rfl (by first | exact Or.inl rfl | exact Or.inr rfl) h))
end Sw

namespace Sw
open PySem PySem.Spec PyProof.Rows L2
theorem all_mk {P : Program} {w : World} {K : PySem.W.Frag} {h : Heap} {mg : Str → Option Value} {fa f0 f1 f2 f3 f4 f5 f6 f7 f8 f9 f10 : Addr} (X : K.In h) (G : h.Ns mainGlobals mg) (hfa : mg "law" = some (.ref fa))
    {od0 an0 od1 an1 od2 an2 od3 an3 od4 an4 od5 an5 od6 an6 od7 an7 od8 an8 od9 an9 od10 an10 : Option Addr} {sl0 sl1 sl2 sl3 sl4 sl5 sl6 sl7 sl8 sl9 sl10 : Array (Option Value)} {oc0 kV0 dc0 pm0 cd0 ct0 oc1 kV1 dc1 pm1 cd1 ct1 oc2 kV2 dc2 pm2 cd2 ct2 oc3 kV3 dc3 pm3 cd3 ct3 oc4 kV4 dc4 pm4 cd4 ct4 oc5 kV5 dc5 pm5 cd5 ct5 oc6 kV6 dc6 pm6 cd6 ct6 oc7 kV7 dc7 pm7 cd7 ct7 oc8 kV8 dc8 pm8 cd8 ct8 oc9 kV9 dc9 pm9 cd9 ct9 oc10 kV10 dc10 pm10 cd10 ct10 : Value}
    (a0 : PySem.W.nsIn K mainGlobals "is_shape" = some (some (.ref f0))) (l0 : K.lookup f0 = some ⟨oc0, od0, .func (PySem.W.fnOf "is_shape" "is_shape" (defArgs s_is_shape) (defBody s_is_shape) (defScope s_is_shape) .none kV0 dc0 pm0 an0 cd0 ct0), sl0⟩) (c0 : PySem.W.codeIn K cd0 "is_shape" = true) (k0 : PySem.W.keepIn K (.ref f0) = true)
    (a1 : PySem.W.nsIn K mainGlobals "reading" = some (some (.ref f1))) (l1 : K.lookup f1 = some ⟨oc1, od1, .func (PySem.W.fnOf "reading" "reading" (defArgs s_reading) (defBody s_reading) (defScope s_reading) .none kV1 dc1 pm1 an1 cd1 ct1), sl1⟩) (c1 : PySem.W.codeIn K cd1 "reading" = true) (k1 : PySem.W.keepIn K (.ref f1) = true)
    (a2 : PySem.W.nsIn K mainGlobals "is_stairs" = some (some (.ref f2))) (l2 : K.lookup f2 = some ⟨oc2, od2, .func (PySem.W.fnOf "is_stairs" "is_stairs" (defArgs s_is_stairs) (defBody s_is_stairs) (defScope s_is_stairs) .none kV2 dc2 pm2 an2 cd2 ct2), sl2⟩) (c2 : PySem.W.codeIn K cd2 "is_stairs" = true) (k2 : PySem.W.keepIn K (.ref f2) = true)
    (a3 : PySem.W.nsIn K mainGlobals "_law_drawn" = some (some (.ref f3))) (l3 : K.lookup f3 = some ⟨oc3, od3, .func (PySem.W.fnOf "_law_drawn" "_law_drawn" (defArgs s_law_drawn) (defBody s_law_drawn) (defScope s_law_drawn) .none kV3 dc3 pm3 an3 cd3 ct3), sl3⟩) (c3 : PySem.W.codeIn K cd3 "_law_drawn" = true) (k3 : PySem.W.keepIn K (.ref f3) = true)
    (a4 : PySem.W.nsIn K mainGlobals "_law_row_by" = some (some (.ref f4))) (l4 : K.lookup f4 = some ⟨oc4, od4, .func (PySem.W.fnOf "_law_row_by" "_law_row_by" (defArgs s_law_row_by) (defBody s_law_row_by) (defScope s_law_row_by) .none kV4 dc4 pm4 an4 cd4 ct4), sl4⟩) (c4 : PySem.W.codeIn K cd4 "_law_row_by" = true) (k4 : PySem.W.keepIn K (.ref f4) = true)
    (a5 : PySem.W.nsIn K mainGlobals "_law_lay" = some (some (.ref f5))) (l5 : K.lookup f5 = some ⟨oc5, od5, .func (PySem.W.fnOf "_law_lay" "_law_lay" (defArgs s_law_lay) (defBody s_law_lay) (defScope s_law_lay) .none kV5 dc5 pm5 an5 cd5 ct5), sl5⟩) (c5 : PySem.W.codeIn K cd5 "_law_lay" = true) (k5 : PySem.W.keepIn K (.ref f5) = true)
    (a6 : PySem.W.nsIn K mainGlobals "_law_laid" = some (some (.ref f6))) (l6 : K.lookup f6 = some ⟨oc6, od6, .func (PySem.W.fnOf "_law_laid" "_law_laid" (defArgs s_law_laid) (defBody s_law_laid) (defScope s_law_laid) .none kV6 dc6 pm6 an6 cd6 ct6), sl6⟩) (c6 : PySem.W.codeIn K cd6 "_law_laid" = true) (k6 : PySem.W.keepIn K (.ref f6) = true)
    (a7 : PySem.W.nsIn K mainGlobals "_law_spoilt_by" = some (some (.ref f7))) (l7 : K.lookup f7 = some ⟨oc7, od7, .func (PySem.W.fnOf "_law_spoilt_by" "_law_spoilt_by" (defArgs s_law_spoilt_by) (defBody s_law_spoilt_by) (defScope s_law_spoilt_by) .none kV7 dc7 pm7 an7 cd7 ct7), sl7⟩) (c7 : PySem.W.codeIn K cd7 "_law_spoilt_by" = true) (k7 : PySem.W.keepIn K (.ref f7) = true)
    (a8 : PySem.W.nsIn K mainGlobals "_law_shape" = some (some (.ref f8))) (l8 : K.lookup f8 = some ⟨oc8, od8, .func (PySem.W.fnOf "_law_shape" "_law_shape" (defArgs s_law_shape) (defBody s_law_shape) (defScope s_law_shape) .none kV8 dc8 pm8 an8 cd8 ct8), sl8⟩) (c8 : PySem.W.codeIn K cd8 "_law_shape" = true) (k8 : PySem.W.keepIn K (.ref f8) = true)
    (a9 : PySem.W.nsIn K mainGlobals "_law_stairs" = some (some (.ref f9))) (l9 : K.lookup f9 = some ⟨oc9, od9, .func (PySem.W.fnOf "_law_stairs" "_law_stairs" (defArgs s_law_stairs) (defBody s_law_stairs) (defScope s_law_stairs) .none kV9 dc9 pm9 an9 cd9 ct9), sl9⟩) (c9 : PySem.W.codeIn K cd9 "_law_stairs" = true) (k9 : PySem.W.keepIn K (.ref f9) = true)
    (a10 : PySem.W.nsIn K mainGlobals "law" = some (some (.ref f10))) (l10 : K.lookup f10 = some ⟨oc10, od10, .func (PySem.W.fnOf "law" "law" (defArgs s_law) (defBody s_law) (defScope s_law) .none kV10 dc10 pm10 an10 cd10 ct10), sl10⟩) (c10 : PySem.W.codeIn K cd10 "law" = true) (k10 : PySem.W.keepIn K (.ref f10) = true)
    (z0 : PySem.W.nsIn K mainGlobals "len" = some none)
    (z1 : PySem.W.nsIn K mainGlobals "range" = some none)
    (z2 : PySem.W.nsIn K mainGlobals "list" = some none)
    (z3 : PySem.W.nsIn K mainGlobals "min" = some none)
    (z4 : PySem.W.nsIn K mainGlobals "max" = some none)
    (z5 : PySem.W.nsIn K mainGlobals "sum" = some none)
    (z6 : PySem.W.nsIn K mainGlobals "sorted" = some none)
    (z7 : PySem.W.nsIn K mainGlobals "isinstance" = some none)
    (z8 : PySem.W.nsIn K mainGlobals "int" = some none)
    (z9 : PySem.W.nsIn K mainGlobals "bool" = some none)
    (z10 : PySem.W.nsIn K mainGlobals "tuple" = some none)
    (z11 : PySem.W.nsIn K mainGlobals "set" = some none)
    (z12 : PySem.W.nsIn K mainGlobals "str" = some none)
    (z13 : PySem.W.nsIn K mainGlobals "reversed" = some none)
    (z14 : PySem.W.nsIn K mainGlobals "ValueError" = some none)
    : ∃ fd : FuncData, (∀ (s : Shared) (v : Value), BindsTo s fd ⟨[v], []⟩ [("script", v)]) ∧ ∀ base : Heap, K.In base → base.Ns mainGlobals mg → FnOk P w K mg base CX0 3 fa fd ["script"] (spN K .R (fn1 f_law_k01)) := by
  have e := hfa.symm.trans (PySem.W.mg_of X G a10)
  cases e
  have m : Bi mg := ⟨PySem.W.mg_none_of X G z0, PySem.W.mg_none_of X G z1, PySem.W.mg_none_of X G z2, PySem.W.mg_none_of X G z3, PySem.W.mg_none_of X G z4, PySem.W.mg_none_of X G z5, PySem.W.mg_none_of X G z6, PySem.W.mg_none_of X G z7, PySem.W.mg_none_of X G z8, PySem.W.mg_none_of X G z9, PySem.W.mg_none_of X G z10, PySem.W.mg_none_of X G z11, PySem.W.mg_none_of X G z12, PySem.W.mg_none_of X G z13, PySem.W.mg_none_of X G z14⟩
  have F0 := fun_mk (st := s_is_shape) l0 c0 k0
  have b0 := F0.binds (ps := ["lengths"]) fun _ _ _ _ _ _ us hl => match us, hl with | [_], _ => rfl
  have H0 : Has K mg "is_shape" "is_shape" s_is_shape ["lengths"] := ⟨_, _, PySem.W.mg_of X G a0, F0, b0⟩
  have F1 := fun_mk (st := s_reading) l1 c1 k1
  have b1 := F1.binds (ps := ["rows"]) fun _ _ _ _ _ _ us hl => match us, hl with | [_], _ => rfl
  have H1 : Has K mg "reading" "reading" s_reading ["rows"] := ⟨_, _, PySem.W.mg_of X G a1, F1, b1⟩
  have F2 := fun_mk (st := s_is_stairs) l2 c2 k2
  have b2 := F2.binds (ps := ["rows"]) fun _ _ _ _ _ _ us hl => match us, hl with | [_], _ => rfl
  have H2 : Has K mg "is_stairs" "is_stairs" s_is_stairs ["rows"] := ⟨_, _, PySem.W.mg_of X G a2, F2, b2⟩
  have F3 := fun_mk (st := s_law_drawn) l3 c3 k3
  have b3 := F3.binds (ps := ["script", "k", "many"]) fun _ _ _ _ _ _ us hl => match us, hl with | [_, _, _], _ => rfl
  have H3 : Has K mg "_law_drawn" "_law_drawn" s_law_drawn ["script", "k", "many"] := ⟨_, _, PySem.W.mg_of X G a3, F3, b3⟩
  have F4 := fun_mk (st := s_law_row_by) l4 c4 k4
  have b4 := F4.binds (ps := ["script", "bound"]) fun _ _ _ _ _ _ us hl => match us, hl with | [_, _], _ => rfl
  have H4 : Has K mg "_law_row_by" "_law_row_by" s_law_row_by ["script", "bound"] := ⟨_, _, PySem.W.mg_of X G a4, F4, b4⟩
  have F5 := fun_mk (st := s_law_lay) l5 c5 k5
  have b5 := F5.binds (ps := ["rows", "number"]) fun _ _ _ _ _ _ us hl => match us, hl with | [_, _], _ => rfl
  have H5 : Has K mg "_law_lay" "_law_lay" s_law_lay ["rows", "number"] := ⟨_, _, PySem.W.mg_of X G a5, F5, b5⟩
  have F6 := fun_mk (st := s_law_laid) l6 c6 k6
  have b6 := F6.binds (ps := ["row"]) fun _ _ _ _ _ _ us hl => match us, hl with | [_], _ => rfl
  have H6 : Has K mg "_law_laid" "_law_laid" s_law_laid ["row"] := ⟨_, _, PySem.W.mg_of X G a6, F6, b6⟩
  have F7 := fun_mk (st := s_law_spoilt_by) l7 c7 k7
  have b7 := F7.binds (ps := ["script", "rows"]) fun _ _ _ _ _ _ us hl => match us, hl with | [_, _], _ => rfl
  have H7 : Has K mg "_law_spoilt_by" "_law_spoilt_by" s_law_spoilt_by ["script", "rows"] := ⟨_, _, PySem.W.mg_of X G a7, F7, b7⟩
  have F8 := fun_mk (st := s_law_shape) l8 c8 k8
  have b8 := F8.binds (ps := ["rows"]) fun _ _ _ _ _ _ us hl => match us, hl with | [_], _ => rfl
  have H8 : Has K mg "_law_shape" "_law_shape" s_law_shape ["rows"] := ⟨_, _, PySem.W.mg_of X G a8, F8, b8⟩
  have F9 := fun_mk (st := s_law_stairs) l9 c9 k9
  have b9 := F9.binds (ps := ["rows"]) fun _ _ _ _ _ _ us hl => match us, hl with | [_], _ => rfl
  have H9 : Has K mg "_law_stairs" "_law_stairs" s_law_stairs ["rows"] := ⟨_, _, PySem.W.mg_of X G a9, F9, b9⟩
  have F10 := fun_mk (st := s_law) l10 c10 k10
  have b10 := F10.binds (ps := ["script"]) fun _ _ _ _ _ _ us hl => match us, hl with | [_], _ => rfl
  have H10 : Has K mg "law" "law" s_law ["script"] := ⟨_, _, PySem.W.mg_of X G a10, F10, b10⟩
  refine ⟨PySem.W.fnOf "law" "law" (defArgs s_law) (defBody s_law) (defScope s_law) .none kV10 dc10 pm10 an10 cd10 ct10, fun s v => .of_eq rfl, fun base _ _ => ?_⟩
  have h_is_shape := ok_is_shape (P := P) (w := w) (base := base) m H0
  have h_reading := ok_reading (P := P) (w := w) (base := base) m H1
  have h_is_stairs := ok_is_stairs (P := P) (w := w) (base := base) m H2 h_is_shape h_reading
  have h_law_drawn := ok_law_drawn (P := P) (w := w) (base := base) m H3
  have h_law_row_by := ok_law_row_by (P := P) (w := w) (base := base) m H4 h_law_drawn
  have h_law_lay := ok_law_lay (P := P) (w := w) (base := base) m H5
  have h_law_laid := ok_law_laid (P := P) (w := w) (base := base) m H6 h_law_lay
  have h_law_spoilt_by := ok_law_spoilt_by (P := P) (w := w) (base := base) m H7 h_law_drawn
  have h_law_shape := ok_law_shape (P := P) (w := w) (base := base) m H8
  have h_law_stairs := ok_law_stairs (P := P) (w := w) (base := base) m H9 h_law_shape
  exact ok_law (P := P) (w := w) (base := base) m F10 h_is_shape h_is_stairs h_law_row_by h_law_laid h_law_spoilt_by h_law_shape h_law_stairs
end Sw
open PySem PySem.W PyProof.Rows
set_option maxHeartbeats 0 in
theorem PySem.Challenge.cw_stairrows_k01_what_stairs_are_holds : PySem.Challenge.rw_stairrows_k01_what_stairs_are.Holds := by
  w_on; o_law; k_head; (case hw => w_witness2)
  k_fill
  refine L2.walk_of (l := PySem.Challenge.rw_stairrows_k01_what_stairs_are) (n := 63) (k := 3) (x := "script") (CX := fun _ => L2.CX0) (sp := fun w => Sw.spN _ .R (Sw.fn1 Sw.f_law_k01)) rfl (by decide) rfl ⟨rfl, by decide, by decide⟩ (fun w h Y => PySem.W.kIn_of Y) ?F (fun _ _ a ns hl _ hS => Sw.law_end (Sw.true_k01 ns hl) hS) (fun _ _ _ _ _ h => h)
  case F =>
    intro w mg fa h KX G hmg
    refine' Sw.all_mk KX G hmg ?a0 ?l0 ?c0 ?k0 ?a1 ?l1 ?c1 ?k1 ?a2 ?l2 ?c2 ?k2 ?a3 ?l3 ?c3 ?k3 ?a4 ?l4 ?c4 ?k4 ?a5 ?l5 ?c5 ?k5 ?a6 ?l6 ?c6 ?k6 ?a7 ?l7 ?c7 ?k7 ?a8 ?l8 ?c8 ?k8 ?a9 ?l9 ?c9 ?k9 ?a10 ?l10 ?c10 ?k10 ?z0 ?z1 ?z2 ?z3 ?z4 ?z5 ?z6 ?z7 ?z8 ?z9 ?z10 ?z11 ?z12 ?z13 ?z14
    (case a0 => k_is); (case l0 => k_is); (case c0 => k_is); (case k0 => k_is); (case a1 => k_is); (case l1 => k_is); (case c1 => k_is); (case k1 => k_is); (case a2 => k_is); (case l2 => k_is); (case c2 => k_is); (case k2 => k_is); (case a3 => k_is); (case l3 => k_is); (case c3 => k_is); (case k3 => k_is); (case a4 => k_is); (case l4 => k_is); (case c4 => k_is); (case k4 => k_is); (case a5 => k_is); (case l5 => k_is); (case c5 => k_is); (case k5 => k_is); (case a6 => k_is); (case l6 => k_is); (case c6 => k_is); (case k6 => k_is); (case a7 => k_is); (case l7 => k_is); (case c7 => k_is); (case k7 => k_is); (case a8 => k_is); (case l8 => k_is); (case c8 => k_is); (case k8 => k_is); (case a9 => k_is); (case l9 => k_is); (case c9 => k_is); (case k9 => k_is); (case a10 => k_is); (case l10 => k_is); (case c10 => k_is); (case k10 => k_is); (case z0 => k_is); (case z1 => k_is); (case z2 => k_is); (case z3 => k_is); (case z4 => k_is); (case z5 => k_is); (case z6 => k_is); (case z7 => k_is); (case z8 => k_is); (case z9 => k_is); (case z10 => k_is); (case z11 => k_is); (case z12 => k_is); (case z13 => k_is); (case z14 => k_is)
