import PyProof.Rows.All
import Wide.All
import OpenK.AllK
import Wide.FinOn
import HandS.ForMost
import HandS.Star
import HandS.IsInst
import HandS.TupAny
import HandS.Zip
import HandS.Walk
import HandS.Wide
import HandS.Deep
import HandS.TupMul
import HandS.SortKw
import KE.SortData
import KE.SortKeyHeap
import KE.KTupSum
import HandS.WideBits
import HandS.RaiseMore
import HandS.Conv
import PyProof.Draws
import KE.GoesMore
import KE.GoesEnum
import KE.GoesNew
import HandS.DictComp
import HandS.Codes
import HandS.Defaults
import HandS.MakeKwOnly
import HandS.Ends
import PySem.Challenge.RW_cornerwalls_k02_whole_cells
set_option Elab.async false
set_option linter.all false
set_option maxRecDepth 100000
set_option maxHeartbeats 4000000
namespace QL
open PySem PySem.Spec PyProof.Rows L2

/-! ### data -/
inductive D where
  | non | bl (b : Bool) | int (i : Int) | str (x : Str) | tup (xs : List D) | lst (xs : List D) | brook | scr (xs : List Int) | raw (v : V)
abbrev DS := List D
abbrev En := List (Option D)

/-- the script's own list: a known one -/
def ScrAt (K : PySem.W.Frag) (H : Hp) (a : Addr) (xs : List Int) : Prop := xs.length ≤ sizeLine ∧ ((∃ o, H a = some (.frz o (.lst (xs.map V.int)))) ∨
  ∃ (o : Obj) (its : Array Value) (n : Nat), K.lookup a = some o ∧ o.cls = .type "list" ∧ o.dict = none ∧ o.data = .seq its n ∧ its.size ≤ sizeLine ∧ Vals (xs.map V.int) its.toList)
theorem ScrAt.sq {K : PySem.W.Frag} {H : Hp} {a : Addr} {xs : List Int} (h : ScrAt K H a xs) : SqL K H a (xs.map V.int) := by
  rcases h.2 with ⟨o, q⟩ | q
  · exact .inl (.inr ⟨o, q⟩)
  · exact .inr q
theorem ScrAt.to {K : PySem.W.Frag} {H H' : Hp} {a : Addr} {xs : List Int} (h : ScrAt K H a xs) (g : ∀ o, H a = some (.frz o (.lst (xs.map V.int))) → H' a = some (.frz o (.lst (xs.map V.int)))) : ScrAt K H' a xs := by
  obtain ⟨z, ⟨o, q⟩ | q⟩ := h
  · exact ⟨z, .inl ⟨o, g o q⟩⟩
  · exact ⟨z, .inr q⟩
/-- a whole number -/
def isI : D → Bool
  | .int _ => true
  | _ => false
section
variable (K : PySem.W.Frag) (β : Option Addr) (O : Addr → Prop) (H : Hp)
mutual
inductive Rep : V → D → Prop
  | non : Rep .non .non
  | bl (b : Bool) : Rep (.bl b) (.bl b)
  | int (i : Int) : Rep (.int i) (.int i)
  | str (x : Str) : x.length ≤ sizeLine → Rep (.str x) (.str x)
  | tup {a : Addr} {vs : List V} {ds : List D} : vs.length ≤ sizeLine → SqT K H a vs → RepL vs ds → Rep (.ref a) (.tup ds)
  | lst {a : Addr} {vs : List V} {ds : List D} : vs.length ≤ sizeLine → ¬ O a → H a = some (.lst vs) → RepL vs ds → Rep (.ref a) (.lst ds)
  | brook {a : Addr} : β = some a → Rep (.ref a) .brook
  | scr {a : Addr} {xs : List Int} : ScrAt K H a xs → Rep (.ref a) (.scr xs)
  | raw (v : V) : Rep v (.raw v)
inductive RepL : List V → List D → Prop
  | nil : RepL [] []
  | cons {v : V} {d : D} {vs : List V} {ds : List D} : Rep v d → RepL vs ds → RepL (v :: vs) (d :: ds)
end
variable (Hd : Addr → Prop)
/-- the brook's cell -/
def BrR (st : DS) : Prop := match β with
  | none => st = []
  | some b => (O b ∧ Hd b) ∧ ∃ vs, H b = some (.lst vs) ∧ RepL K β O H vs st ∧ st.all isI = true
/-- a list of one's own; Hd: what may change at any time, and is no one's -/
def MutAt (a : Addr) (d : D) : Prop := O a ∧ ¬ Hd a ∧ ∃ ds vs, d = .lst ds ∧ H a = some (.lst vs) ∧ vs.length ≤ sizeLine ∧ RepL K β O H vs ds
def RepT (v : V) (d : D) : Prop := Rep K β O H v d ∨ ∃ a, v = .ref a ∧ MutAt K β O H Hd a d
end
/-- the heap grows (the brook's cell may change) -/
def Gr (β : Option Addr) (H H' : Hp) : Prop := ∀ b o, H b = some o → β ≠ some b → H' b = some o
theorem Gr.refl {β : Option Addr} (H : Hp) : Gr β H H := fun _ _ e _ => e
theorem Gr.trans {β : Option Addr} {H H1 H2 : Hp} (a : Gr β H H1) (b : Gr β H1 H2) : Gr β H H2 := fun c o e n => b c o (a c o e n) n
theorem Gr.of {β : Option Addr} {H H' : Hp} (a : Same H H') : Gr β H H' := fun c o e _ => a c o e
theorem Gr.upd {β : Option Addr} {H : Hp} {p : Addr} {o : HO} (h : H p = none) : Gr β H (upd H p o) := fun b x e _ => by
  rw [upd_ne (ne_of_none e h)]; exact e
/-- what is asked of the brook's cell, for growing -/
def Bk (β : Option Addr) (O Hd : Addr → Prop) (H : Hp) : Prop := ∀ b, β = some b → (O b ∧ Hd b) ∧ ∃ vs, H b = some (.lst vs)
section
variable {K : PySem.W.Frag} {β : Option Addr} {O O' Hd : Addr → Prop} {H H' : Hp} {st : DS} {v : V} {d : D} {a : Addr}
theorem BrR.bk (h : BrR K β O H Hd st) : Bk β O Hd H := fun b e => by
  unfold BrR at h
  rw [e] at h
  obtain ⟨ho, vs, hv, _⟩ := h
  exact ⟨ho, vs, hv⟩
theorem sqT_gr {vs : List V} (b : Bk β O Hd H) (g : Gr β H H') (h : SqT K H a vs) : SqT K H' a vs := by
  rcases h with (h | ⟨o, h⟩) | h
  · refine .inl (.inl (g _ _ h fun e => ?_))
    obtain ⟨_, ws, q⟩ := b a e
    rw [h] at q; cases q
  · refine .inl (.inr ⟨o, g _ _ h fun e => ?_⟩)
    obtain ⟨_, ws, q⟩ := b a e
    rw [h] at q; cases q
  · exact .inr h
theorem sqL_gr {vs : List V} (g : Gr β H H') (n : β ≠ some a) (h : H a = some (.lst vs)) : H' a = some (.lst vs) := g _ _ h n
mutual
theorem Rep.gr (b : Bk β O Hd H) (g : Gr β H H') : ∀ {v : V} {d : D}, Rep K β O H v d → Rep K β O H' v d
  | _, _, .non => .non
  | _, _, .bl _ => .bl _
  | _, _, .int _ => .int _
  | _, _, .str _ z => .str _ z
  | _, _, .tup z h r => .tup z (sqT_gr b g h) (RepL.gr b g r)
  | _, _, .lst z n h r => .lst z n (sqL_gr g (fun e => n (b _ e).1.1) h) (RepL.gr b g r)
  | _, _, .brook e => .brook e
  | _, _, .scr h => .scr (h.to fun o q => g _ _ q fun e => by
      obtain ⟨_, ws, z⟩ := b _ e
      rw [q] at z; cases z)
  | _, _, .raw _ => .raw _
theorem RepL.gr (b : Bk β O Hd H) (g : Gr β H H') : ∀ {vs : List V} {ds : List D}, RepL K β O H vs ds → RepL K β O H' vs ds
  | _, _, .nil => .nil
  | _, _, .cons h r => .cons (Rep.gr b g h) (RepL.gr b g r)
end
/-! fewer addresses are barred -/
mutual
theorem Rep.lessO (s : ∀ a, O' a → O a) : ∀ {v : V} {d : D}, Rep K β O H v d → Rep K β O' H v d
  | _, _, .non => .non
  | _, _, .bl _ => .bl _
  | _, _, .int _ => .int _
  | _, _, .str _ z => .str _ z
  | _, _, .tup z h r => .tup z h (RepL.lessO s r)
  | _, _, .lst z n h r => .lst z (fun e => n (s _ e)) h (RepL.lessO s r)
  | _, _, .brook e => .brook e
  | _, _, .scr h => .scr h
  | _, _, .raw _ => .raw _
theorem RepL.lessO (s : ∀ a, O' a → O a) : ∀ {vs : List V} {ds : List D}, RepL K β O H vs ds → RepL K β O' H vs ds
  | _, _, .nil => .nil
  | _, _, .cons h r => .cons (Rep.lessO s h) (RepL.lessO s r)
end
/-- a barred list is changed -/
theorem sqT_wr {vs os : List V} {o' : HO} {c : Addr} (hc : H c = some (.lst os)) (h : SqT K H a vs) : SqT K (upd H c o') a vs := by
  rcases h with (h | ⟨o, h⟩) | h
  · exact .inl (.inl (by rw [upd_ne (ne_of h hc (by intro z; cases z))]; exact h))
  · exact .inl (.inr ⟨o, by rw [upd_ne (ne_of h hc (by intro z; cases z))]; exact h⟩)
  · exact .inr h
theorem sqL_wr {vs : List V} {o' : HO} {c : Addr} (n : a ≠ c) (h : H a = some (.lst vs)) : (upd H c o') a = some (.lst vs) := by
  rw [upd_ne n]; exact h
mutual
theorem Rep.wr {os : List V} {o' : HO} {c : Addr} (hc : H c = some (.lst os)) (oc : O c) : ∀ {v : V} {d : D}, Rep K β O H v d → Rep K β O (upd H c o') v d
  | _, _, .non => .non
  | _, _, .bl _ => .bl _
  | _, _, .int _ => .int _
  | _, _, .str _ z => .str _ z
  | _, _, .tup z h r => .tup z (sqT_wr hc h) (RepL.wr hc oc r)
  | _, _, .lst z n h r => .lst z n (sqL_wr (fun e => n (e ▸ oc)) h) (RepL.wr hc oc r)
  | _, _, .brook e => .brook e
  | _, _, .scr h => .scr (h.to fun o q => by rw [upd_ne (ne_of q hc (by intro z; cases z))]; exact q)
  | _, _, .raw _ => .raw _
theorem RepL.wr {os : List V} {o' : HO} {c : Addr} (hc : H c = some (.lst os)) (oc : O c) : ∀ {vs : List V} {ds : List D}, RepL K β O H vs ds → RepL K β O (upd H c o') vs ds
  | _, _, .nil => .nil
  | _, _, .cons h r => .cons (Rep.wr hc oc h) (RepL.wr hc oc r)
end
theorem RepL.length : ∀ {vs : List V} {ds : List D}, RepL K β O H vs ds → vs.length = ds.length
  | _, _, .nil => rfl
  | _, _, .cons _ r => by rw [List.length_cons, List.length_cons, RepL.length r]
theorem RepL.get : ∀ {vs : List V} {ds : List D} {i : Nat} {d : D}, RepL K β O H vs ds → ds[i]? = some d → ∃ v, vs[i]? = some v ∧ Rep K β O H v d
  | _, _, _, _, .nil, e => by simp at e
  | _, _, 0, _, .cons h _, e => by simp at e; subst e; exact ⟨_, rfl, h⟩
  | _, _, i + 1, _, .cons _ r, e => by
    obtain ⟨v, q1, q2⟩ := RepL.get (i := i) r (by simpa using e)
    exact ⟨v, by simpa using q1, q2⟩
theorem RepL.getV : ∀ {vs : List V} {ds : List D} {i : Nat} {v : V}, RepL K β O H vs ds → vs[i]? = some v → ∃ d, ds[i]? = some d ∧ Rep K β O H v d
  | _, _, _, _, .nil, e => by simp at e
  | _, _, 0, _, .cons h _, e => by simp at e; subst e; exact ⟨_, rfl, h⟩
  | _, _, i + 1, _, .cons _ r, e => by
    obtain ⟨d, q1, q2⟩ := RepL.getV (i := i) r (by simpa using e)
    exact ⟨d, by simpa using q1, q2⟩
theorem RepL.append : ∀ {vs ws : List V} {ds es : List D}, RepL K β O H vs ds → RepL K β O H ws es → RepL K β O H (vs ++ ws) (ds ++ es)
  | _, _, _, _, .nil, r => r
  | _, _, _, _, .cons h r, r' => .cons h (RepL.append r r')
theorem RepL.take : ∀ {vs : List V} {ds : List D} (n : Nat), RepL K β O H vs ds → RepL K β O H (vs.take n) (ds.take n)
  | _, _, 0, _ => .nil
  | _, _, _ + 1, .nil => .nil
  | _, _, n + 1, .cons h r => .cons h (RepL.take n r)
theorem RepL.drop : ∀ {vs : List V} {ds : List D} (n : Nat), RepL K β O H vs ds → RepL K β O H (vs.drop n) (ds.drop n)
  | _, _, 0, r => r
  | _, _, _ + 1, .nil => .nil
  | _, _, n + 1, .cons _ r => RepL.drop n r
theorem RepL.set : ∀ {vs : List V} {ds : List D} {v : V} {d : D} (n : Nat), RepL K β O H vs ds → Rep K β O H v d → RepL K β O H (vs.set n v) (ds.set n d)
  | _, _, _, _, _, .nil, _ => .nil
  | _, _, _, _, 0, .cons _ r, q => .cons q r
  | _, _, _, _, n + 1, .cons h r, q => .cons h (RepL.set n r q)
theorem RepL.ints : ∀ {vs : List V} {ns : List Int}, RepL K β O H vs (ns.map D.int) → vs = ns.map V.int
  | _, [], .nil => rfl
  | _, _ :: _, .cons (.int _) r => by rw [RepL.ints r]; rfl
theorem RepL.bls : ∀ {vs : List V} {ns : List Bool}, RepL K β O H vs (ns.map D.bl) → vs = ns.map V.bl
  | _, [], .nil => rfl
  | _, _ :: _, .cons (.bl _) r => by rw [RepL.bls r]; rfl
theorem RepL.leaf {β' : Option Addr} : ∀ {vs : List V} {ds : List D}, RepL K β O H vs ds → ds.all isI = true → RepL K β' O' H' vs ds
  | _, _, .nil, _ => .nil
  | _, _, .cons (d := d) h r, e => by
    simp only [List.all_cons, Bool.and_eq_true] at e
    refine .cons ?_ (RepL.leaf r e.2)
    cases h <;> first | exact .int _ | exact absurd e.1 Bool.false_ne_true
theorem RepT.of (h : Rep K β O H v d) : RepT K β O H Hd v d := .inl h
theorem MutAt.gr (b : Bk β O Hd H) (g : Gr β H H') (h : MutAt K β O H Hd a d) : MutAt K β O H' Hd a d := by
  obtain ⟨h1, h2, ds, vs, rfl, h3, z, h4⟩ := h
  exact ⟨h1, h2, ds, vs, rfl, g _ _ h3 (fun e => h2 (b _ e).1.2), z, h4.gr b g⟩
theorem RepT.gr (b : Bk β O Hd H) (g : Gr β H H') (h : RepT K β O H Hd v d) : RepT K β O H' Hd v d := by
  rcases h with h | ⟨a, e, h⟩
  · exact .inl (h.gr b g)
  · exact .inr ⟨a, e, h.gr b g⟩
theorem RepT.seq {ds : List D} (h : RepT K β O H Hd v (.lst ds)) : ∃ a vs, v = .ref a ∧ vs.length ≤ sizeLine ∧ H a = some (.lst vs) ∧ RepL K β O H vs ds := by
  rcases h with h | ⟨a, e, _, _, ds', vs, e', h, z, r⟩
  · cases h with
    | lst z n h r => exact ⟨_, _, rfl, z, h, r⟩
  · cases e'
    exact ⟨a, vs, e, z, h, r⟩
theorem RepT.tup {ds : List D} (h : RepT K β O H Hd v (.tup ds)) : ∃ a vs, v = .ref a ∧ vs.length ≤ sizeLine ∧ SqT K H a vs ∧ RepL K β O H vs ds := by
  rcases h with h | ⟨a, e, _, _, ds', vs, e', _⟩
  · cases h with
    | tup z h r => exact ⟨_, _, rfl, z, h, r⟩
  · cases e'
/-- what is no list is read as it is -/
theorem RepT.rep (h : RepT K β O H Hd v d) (n : ∀ ds, d ≠ .lst ds) : Rep K β O H v d := by
  rcases h with h | ⟨a, e, _, _, ds', vs, e', _⟩
  · exact h
  · exact absurd e' (n ds')
end

/-! ### slots -/
structure EnvE (K : PySem.W.Frag) (β : Option Addr) (M : List Nat) (O Hd : Addr → Prop) (H : Hp) (σ : L2.St) (ρ : En) : Prop where
  len : σ.length = ρ.length
  val : ∀ i d, ρ[i]? = some (some d) → i ∉ M → ∃ v, σ[i]? = some (some v) ∧ Rep K β O H v d
  own : ∀ i d, ρ[i]? = some (some d) → i ∈ M → ∃ a, σ[i]? = some (some (.ref a)) ∧ MutAt K β O H Hd a d
  inj : ∀ i j d e a, ρ[i]? = some (some d) → ρ[j]? = some (some e) → i ∈ M → j ∈ M → σ[i]? = some (some (.ref a)) → σ[j]? = some (some (.ref a)) → i = j
section
variable {K : PySem.W.Frag} {β : Option Addr} {M : List Nat} {O Hd : Addr → Prop} {H H' : Hp} {σ : L2.St} {ρ : En}
theorem EnvE.gr (b : Bk β O Hd H) (g : Gr β H H') (E : EnvE K β M O Hd H σ ρ) : EnvE K β M O Hd H' σ ρ :=
  ⟨E.len, fun i d e n => let ⟨v, q1, q2⟩ := E.val i d e n; ⟨v, q1, q2.gr b g⟩, fun i d e n => let ⟨v, q1, q2⟩ := E.own i d e n; ⟨v, q1, q2.gr b g⟩, E.inj⟩
/-- a value is put to a slot that holds no list of one's own -/
theorem EnvE.set {i : Nat} {v : V} {d : D} (E : EnvE K β M O Hd H σ ρ) (n : i ∉ M) (r : Rep K β O H v d) : EnvE K β M O Hd H (σ.set i (some v)) (ρ.set i (some d)) := by
  refine ⟨by rw [List.length_set, List.length_set, E.len], fun j d' e nj => ?_, fun j d' e nj => ?_, fun j l d1 d2 a e1 e2 m1 m2 s1 s2 => ?_⟩
  · by_cases hj : i = j
    · subst hj
      by_cases hl : i < ρ.length
      · rw [List.getElem?_set_self hl] at e
        cases e
        exact ⟨v, by rw [List.getElem?_set_self (by rw [E.len]; exact hl)], r⟩
      · rw [List.getElem?_eq_none (by simpa using hl)] at e; cases e
    · rw [List.getElem?_set_ne hj] at e
      obtain ⟨u, q1, q2⟩ := E.val j d' e nj
      exact ⟨u, by rw [List.getElem?_set_ne hj]; exact q1, q2⟩
  · have hj : i ≠ j := fun z => n (z ▸ nj)
    rw [List.getElem?_set_ne hj] at e
    obtain ⟨u, q1, q2⟩ := E.own j d' e nj
    exact ⟨u, by rw [List.getElem?_set_ne hj]; exact q1, q2⟩
  · have hj : i ≠ j := fun z => n (z ▸ m1)
    have hl : i ≠ l := fun z => n (z ▸ m2)
    rw [List.getElem?_set_ne hj] at e1 s1
    rw [List.getElem?_set_ne hl] at e2 s2
    exact E.inj j l d1 d2 a e1 e2 m1 m2 s1 s2
/-- slots are forgotten -/
def wipeD (ρ : En) : List Nat → En
  | [] => ρ
  | v :: vs => (wipeD ρ vs).set v none
theorem wipeD_length (ρ : En) : ∀ vs : List Nat, (wipeD ρ vs).length = ρ.length
  | [] => rfl
  | v :: vs => by unfold wipeD; rw [List.length_set, wipeD_length ρ vs]
theorem wipe_get {i : Nat} {x : V} : ∀ {vs : List Nat}, i ∉ vs → (wipe σ vs)[i]? = σ[i]?
  | [], _ => rfl
  | v :: vs, h => by
    unfold wipe
    rw [List.getElem?_set_ne (fun e => h (by simp [e]))]
    exact wipe_get (x := x) fun z => h (by simp [z])
theorem wipeD_some {i : Nat} {d : D} : ∀ {vs : List Nat}, (wipeD ρ vs)[i]? = some (some d) → ρ[i]? = some (some d) ∧ i ∉ vs
  | [], h => ⟨h, by simp⟩
  | v :: vs, h => by
    unfold wipeD at h
    by_cases hi : v = i
    · subst hi
      by_cases hv : v < (wipeD ρ vs).length
      · rw [List.getElem?_set_self hv] at h; cases h
      · rw [List.getElem?_eq_none (by simpa using hv)] at h; cases h
    · rw [List.getElem?_set_ne hi] at h
      obtain ⟨h1, h2⟩ := wipeD_some h
      exact ⟨h1, by simp only [List.mem_cons, not_or]; exact ⟨fun e => hi e.symm, h2⟩⟩
theorem EnvE.wipe (E : EnvE K β M O Hd H σ ρ) (vs : List Nat) : EnvE K β M O Hd H (wipe σ vs) (wipeD ρ vs) := by
  refine ⟨by rw [wipe_length, wipeD_length, E.len], fun i d e n => ?_, fun i d e n => ?_, fun i j d1 d2 a e1 e2 m1 m2 s1 s2 => ?_⟩
  · obtain ⟨h1, h2⟩ := wipeD_some e
    obtain ⟨v, q1, q2⟩ := E.val i d h1 n
    exact ⟨v, by rw [wipe_get (x := v) h2]; exact q1, q2⟩
  · obtain ⟨h1, h2⟩ := wipeD_some e
    obtain ⟨v, q1, q2⟩ := E.own i d h1 n
    exact ⟨v, by rw [wipe_get (x := .ref v) h2]; exact q1, q2⟩
  · obtain ⟨h1, h2⟩ := wipeD_some e1
    obtain ⟨h3, h4⟩ := wipeD_some e2
    rw [wipe_get (x := .ref a) h2] at s1
    rw [wipe_get (x := .ref a) h4] at s2
    exact E.inj i j d1 d2 a h1 h3 m1 m2 s1 s2
end
mutual
theorem Rep.sameH {K : PySem.W.Frag} {β : Option Addr} {O : Addr → Prop} {H H' : Hp} (g : Same H H') : ∀ {v : V} {d : D}, Rep K β O H v d → Rep K β O H' v d
  | _, _, .non => .non
  | _, _, .bl _ => .bl _
  | _, _, .int _ => .int _
  | _, _, .str _ z => .str _ z
  | _, _, .tup z h r => .tup z (by
      rcases h with (h | ⟨o, h⟩) | h
      · exact .inl (.inl (g _ _ h))
      · exact .inl (.inr ⟨o, g _ _ h⟩)
      · exact .inr h) (RepL.sameH g r)
  | _, _, .lst z n h r => .lst z n (g _ _ h) (RepL.sameH g r)
  | _, _, .brook e => .brook e
  | _, _, .scr h => .scr (h.to fun o q => g _ _ q)
  | _, _, .raw _ => .raw _
theorem RepL.sameH {K : PySem.W.Frag} {β : Option Addr} {O : Addr → Prop} {H H' : Hp} (g : Same H H') : ∀ {vs : List V} {ds : List D}, RepL K β O H vs ds → RepL K β O H' vs ds
  | _, _, .nil => .nil
  | _, _, .cons h r => .cons (Rep.sameH g h) (RepL.sameH g r)
end
/-! more addresses are barred, at which nothing stands -/
mutual
theorem Rep.moreO {K : PySem.W.Frag} {β : Option Addr} {O O' : Addr → Prop} {H : Hp} (s : ∀ a, O' a → O a ∨ H a = none) : ∀ {v : V} {d : D}, Rep K β O H v d → Rep K β O' H v d
  | _, _, .non => .non
  | _, _, .bl _ => .bl _
  | _, _, .int _ => .int _
  | _, _, .str _ z => .str _ z
  | _, _, .tup z h r => .tup z h (RepL.moreO s r)
  | _, _, .lst z n h r => .lst z (fun o => (s _ o).elim n fun e => by rw [h] at e; cases e) h (RepL.moreO s r)
  | _, _, .brook e => .brook e
  | _, _, .scr h => .scr h
  | _, _, .raw _ => .raw _
theorem RepL.moreO {K : PySem.W.Frag} {β : Option Addr} {O O' : Addr → Prop} {H : Hp} (s : ∀ a, O' a → O a ∨ H a = none) : ∀ {vs : List V} {ds : List D}, RepL K β O H vs ds → RepL K β O' H vs ds
  | _, _, .nil => .nil
  | _, _, .cons h r => .cons (Rep.moreO s h) (RepL.moreO s r)
end
end QL
namespace QL
open PySem PySem.Spec PyProof.Rows L2
abbrev Post := D → DS → Prop
abbrev W := En → DS → Post → Prop
def Mono (w : W) : Prop := ∀ ρ st k k', (∀ d s, k d s → k' d s) → w ρ st k → w ρ st k'
def OkO (O : Addr → Prop) (H : Hp) : Prop := ∀ a, O a → ∃ vs, H a = some (.lst vs)
theorem OkO.no {O : Addr → Prop} {H : Hp} {a : Addr} (k : OkO O H) (h : H a = none) : ¬ O a := fun o => by
  obtain ⟨vs, q⟩ := k a o
  rw [h] at q; cases q
structure Fx where
  K : PySem.W.Frag
  β : Option Addr
  M : List Nat
  O : Addr → Prop
  Hd : Addr → Prop
  fr : Bool := false
abbrev Fx.Rep (c : Fx) := QL.Rep c.K c.β c.O
abbrev Fx.RepL (c : Fx) := QL.RepL c.K c.β c.O
abbrev Fx.RepT (c : Fx) := fun H => QL.RepT c.K c.β c.O H c.Hd
abbrev Fx.BrR (c : Fx) := fun H => QL.BrR c.K c.β c.O H c.Hd
abbrev Fx.Bk (c : Fx) := QL.Bk c.β c.O c.Hd
def Fresh (c : Fx) (H H' : Hp) (v : V) (d : D) : Prop := ∀ ds, d = .lst ds → ∃ a vs, v = .ref a ∧ H a = none ∧ H' a = some (.lst vs) ∧ vs.length ≤ sizeLine ∧ QL.RepL c.K c.β (fun b => c.O b ∨ b = a) H' vs ds
structure At (c : Fx) (H : Hp) (σ : L2.St) (ρ : En) (st : DS) : Prop where
  env : EnvE c.K c.β c.M c.O c.Hd H σ ρ
  br : c.BrR H st
  ok : OkO c.O H
theorem OkO.gr {O Hd : Addr → Prop} {β : Option Addr} {H H' : Hp} {K : PySem.W.Frag} {st' : DS} (g : Gr β H H') (b : QL.BrR K β O H' Hd st') (k : OkO O H) : OkO O H' := fun a h => by
  by_cases e : β = some a
  · exact (b.bk a e).2
  · obtain ⟨vs, q⟩ := k a h
    exact ⟨vs, g a _ q e⟩
theorem At.gr {c : Fx} {H H' : Hp} {σ : L2.St} {ρ : En} {st st' : DS} (A : At c H σ ρ st) (g : Gr c.β H H') (b : c.BrR H' st') : At c H' σ ρ st' := ⟨A.env.gr A.br.bk g, b, A.ok.gr g b⟩
theorem Fresh.back {c : Fx} {H H1 H' : Hp} {v : V} {d : D} {st1 : DS} (g : Gr c.β H H1) (b : c.BrR H1 st1) (f : Fresh c H1 H' v d) : Fresh c H H' v d := fun ds e => by
  obtain ⟨a, vs, h1, h2, h3⟩ := f ds e
  refine ⟨a, vs, h1, ?_, h3⟩
  cases q : H a with
  | none => rfl
  | some o =>
    by_cases e : c.β = some a
    · obtain ⟨_, vs, q⟩ := b.bk a e
      rw [h2] at q; cases q
    · rw [g a o q e] at h2; cases h2
theorem br_same {c : Fx} {H H' : Hp} {st : DS} (s : Same H H') (b : c.BrR H st) : c.BrR H' st := by
  have bk := b.bk
  obtain ⟨K, β, M, O, Hd⟩ := c
  cases β with
  | none => exact b
  | some p =>
    obtain ⟨h1, vs, h2, h3, h4⟩ := b
    exact ⟨h1, vs, s _ _ h2, h3.gr bk (Gr.of s), h4⟩
abbrev RK := Hp → Hp → V → D → Prop
def tG (c : Fx) (R : RK) (w : W) : TE := fun σ H Q => ∃ ρ st, At c H σ ρ st ∧ w ρ st (fun d st' => ∀ v H', Gr c.β H H' → c.BrR H' st' → R H H' v d → Q v H')
abbrev rkE (c : Fx) (fr : Bool) : RK := fun H H' v d => c.Rep H' v d ∧ (fr = true → Fresh c H H' v d)
abbrev rkR (c : Fx) : RK := fun _ H' v d => c.RepT H' v d
abbrev tE (c : Fx) (fr : Bool) (w : W) : TE := tG c (rkE c fr) w
abbrev tR (c : Fx) (w : W) : TE := tG c (rkR c) w
section
variable {X : Cx} {c : Fx} {R : RK} {w wa wb : W} {σ : L2.St} {H : Hp} {Q : VK} {ρ : En} {st : DS} {fr : Bool} {e a b : Expr} {t t' : TE} {pos : Pos}
theorem tG_use {k : Post} (m : Mono w) (A : At c H σ ρ st) (h : w ρ st k) (f : ∀ d st' v H', Gr c.β H H' → R H H' v d → At c H' σ ρ st' → k d st' → Q v H') : tG c R w σ H Q :=
  ⟨ρ, st, A, m _ _ _ _ (fun d st' hk v H' g b r => f d st' v H' g r (A.gr g b) hk) h⟩
theorem PEimp (h : PE X e t) (f : ∀ σ H Q, t' σ H Q → t σ H Q) : PE X e t' := ⟨fun pins s σ H Q I q => h.run pins s σ H Q I (f _ _ _ q)⟩
theorem PTimp {t t' : TT} (h : PT X e t) (f : ∀ σ H Q, t' σ H Q → t σ H Q) : PT X e t' := ⟨fun pins s σ H Q I q => h.run pins s σ H Q I (f _ _ _ q)⟩
theorem PWimp {t t' : TT} (h : PW X e t) (f : ∀ σ H Q, t' σ H Q → t σ H Q) : PW X e t' := ⟨fun wh pins s σ H Q I q => h.run wh pins s σ H Q I (f _ _ _ q)⟩
theorem PAimp {es : List Expr} {t t' : TA} (h : PA X es t) (f : ∀ σ H Q, t' σ H Q → t σ H Q) : PA X es t' := ⟨fun p pins s σ H Q I q => h.run p pins s σ H Q I (f _ _ _ q)⟩
theorem PSimp {sm : Stmt} {t t' : TS} (h : PS X sm t) (f : ∀ D σ H, t' D σ H → t D σ H) : PS X sm t' := ⟨fun pins s σ H D I q => h.run pins s σ H D I (f _ _ _ q)⟩
theorem pe_ofE (m : Mono w) (h : PE X e (tE c fr w)) : PE X e (tR c w) := PEimp h fun σ H Q ⟨ρ, st, A, hw⟩ =>
  tG_use m A hw fun d st' v H' g r A' k => k v H' g A'.br (.inl r.1)
theorem pe_fr (m : Mono w) (h : PE X e (tE c fr w)) : PE X e (tE c false w) := PEimp h fun σ H Q ⟨ρ, st, A, hw⟩ =>
  tG_use m A hw fun d st' v H' g r A' k => k v H' g A'.br ⟨r.1, fun z => nomatch z⟩

/-! ### leaves -/
def wVar (i : Nat) : W := fun ρ st k => match ρ[i]? with | some (some d) => k d st | _ => False
def wC (d : D) : W := fun _ st k => k d st
theorem wVar_mono {i : Nat} : Mono (wVar i) := fun ρ st k k' f h => by
  unfold wVar at h ⊢
  split at h
  · exact f _ _ h
  · exact h
theorem wC_mono {d : D} : Mono (wC d) := fun ρ st k k' f h => f _ _ h
theorem pd_var {i : Nat} {x : Str} (n : i ∉ c.M) (hN : X.N[i]? = some x) (hv : Vis X.env.scope x) (hd : (x == ("__debug__" : Str)) = false) (hcd : (x == ("__classdict__" : Str)) = false) : PE X (.Name x pos) (tE c false (wVar i)) :=
  PEimp (pe_var hN hv hd hcd) fun σ H Q ⟨ρ, st, A, hw⟩ => by
    unfold wVar at hw
    split at hw
    · rename_i d e
      obtain ⟨v, q1, q2⟩ := A.env.val i d e n
      exact ⟨v, q1, hw v H (Gr.refl H) A.br ⟨q2, fun z => nomatch z⟩⟩
    · exact hw.elim
theorem pr_var {i : Nat} {x : Str} (hN : X.N[i]? = some x) (hv : Vis X.env.scope x) (hd : (x == ("__debug__" : Str)) = false) (hcd : (x == ("__classdict__" : Str)) = false) : PE X (.Name x pos) (tR c (wVar i)) :=
  PEimp (pe_var hN hv hd hcd) fun σ H Q ⟨ρ, st, A, hw⟩ => by
    unfold wVar at hw
    split at hw
    · rename_i d e
      by_cases n : i ∈ c.M
      · obtain ⟨a, q1, q2⟩ := A.env.own i d e n
        exact ⟨_, q1, hw _ H (Gr.refl H) A.br (.inr ⟨a, rfl, q2⟩)⟩
      · obtain ⟨v, q1, q2⟩ := A.env.val i d e n
        exact ⟨v, q1, hw v H (Gr.refl H) A.br (.inl q2)⟩
    · exact hw.elim
theorem pd_c {v : V} {d : D} (h : PE X e (tC v)) (r : ∀ H, c.Rep H v d) (n : ∀ ds, d ≠ .lst ds) : PE X e (tE c true (wC d)) :=
  PEimp h fun σ H Q ⟨ρ, st, A, hw⟩ => hw v H (Gr.refl H) A.br ⟨r H, fun _ ds e => absurd e (n ds)⟩

/-! ### operators by values -/
abbrev P2 := D → D → (D → Prop) → Prop
def MonoP (P : P2) : Prop := ∀ x y k k', (∀ d, k d → k' d) → P x y k → P x y k'
/-- what comes: a value in a heap that has grown -/
def Got (c : Fx) (fr : Bool) (H : Hp) (Q : VK) (z : D) : Prop := ∀ v H', Same H H' → c.Rep H' v z → (fr = true → Fresh c H H' v z) → Q v H'
def rD (c : Fx) (fr : Bool) (P : P2) : R2 := fun x y H Q => ∃ dx dy, c.Bk H ∧ OkO c.O H ∧ c.RepT H x dx ∧ c.RepT H y dy ∧ P dx dy (Got c fr H Q)
def wOp (P : P2) (wa wb : W) : W := fun ρ st k => wa ρ st fun x st1 => wb ρ st1 fun y st2 => P x y fun z => k z st2
theorem wOp_mono {P : P2} (mp : MonoP P) (ma : Mono wa) (mb : Mono wb) : Mono (wOp P wa wb) := fun ρ st k k' f h =>
  ma _ _ _ _ (fun x st1 h1 => mb _ _ _ _ (fun y st2 h2 => mp _ _ _ _ (fun z hz => f z st2 hz) h2) h1) h
theorem got_of {H H1 : Hp} {st1 : DS} {z : D} (g : Gr c.β H H1) (b : c.BrR H1 st1) (h : ∀ v H', Gr c.β H H' → c.BrR H' st1 → rkE c fr H H' v z → Q v H') : Got c fr H1 Q z := fun v H' s r f =>
  h v H' (g.trans (Gr.of s)) (br_same s b) ⟨r, fun e => (f e).back g b⟩
theorem op_go {P : P2} (mp : MonoP P) (ma : Mono wa) (mb : Mono wb) {σ H Q} (h : tE c fr (wOp P wa wb) σ H Q) : tOp (rD c fr P) (tR c wa) (tR c wb) σ H Q := by
  obtain ⟨ρ, st, A, h⟩ := h
  refine tG_use ma A h fun x st1 v H1 g1 r1 A1 h1 => ?_
  refine tG_use mb A1 h1 fun y st2 u H2 g2 r2 A2 h2 => ?_
  exact ⟨x, y, A2.br.bk, A2.ok, RepT.gr A1.br.bk g2 r1, r2, mp _ _ _ _ (fun z hz => got_of (g1.trans g2) A2.br hz) h2⟩
theorem pd_bin {op : Operator} {P : P2} (mp : MonoP P) (ma : Mono wa) (mb : Mono wb) (ho : OpR X (binaryOp op) (rD c fr P)) (ha : PE X a (tR c wa)) (hb : PE X b (tR c wb)) : PE X (.BinOp a op b pos) (tE c fr (wOp P wa wb)) :=
  PEimp (pe_op ho ha hb) fun σ H Q h => op_go mp ma mb h
theorem pd_cmp {op : CmpOp} {P : P2} (mp : MonoP P) (ma : Mono wa) (mb : Mono wb) (ho : OpR X (compareOp op) (rD c fr P)) (hm : behindInMarks op b = false) (ha : PE X a (tR c wa)) (hb : PE X b (tR c wb)) : PE X (.Compare a [op] [b] pos) (tE c fr (wOp P wa wb)) :=
  PEimp (pe_cmpR ho ha hb hm) fun σ H Q h => op_go mp ma mb h
theorem pd_ix {P : P2} (mp : MonoP P) (ma : Mono wa) (mb : Mono wb) (ho : IxR X (rD c fr P)) (hs : PlainIx b) (ha : PE X a (tR c wa)) (hb : PE X b (tR c wb)) : PE X (.Subscript a b pos) (tE c fr (wOp P wa wb)) :=
  PEimp (pe_ix ho ha hb hs) fun σ H Q h => op_go mp ma mb h

/-! ### one-place operators, tests -/
abbrev P1 := D → (D → Prop) → Prop
def MonoP1 (P : P1) : Prop := ∀ x k k', (∀ d, k d → k' d) → P x k → P x k'
def rD1 (c : Fx) (fr : Bool) (P : P1) : V → Hp → VK → Prop := fun x H Q => ∃ dx, c.Bk H ∧ OkO c.O H ∧ c.RepT H x dx ∧ P dx (Got c fr H Q)
def wUn (P : P1) (wa : W) : W := fun ρ st k => wa ρ st fun x st1 => P x fun z => k z st1
theorem wUn_mono {P : P1} (mp : MonoP1 P) (ma : Mono wa) : Mono (wUn P wa) := fun ρ st k k' f h => ma _ _ _ _ (fun x st1 h1 => mp _ _ _ (fun z hz => f z st1 hz) h1) h
theorem pd_un {op : UnaryOp} {P : P1} (mp : MonoP1 P) (ma : Mono wa) (ho : UnR X (unaryOp op) (rD1 c fr P)) (ha : PE X a (tR c wa)) : PE X (.UnaryOp op a pos) (tE c fr (wUn P wa)) :=
  PEimp (pe_un ho ha) fun σ H Q ⟨ρ, st, A, h⟩ => by
    refine tG_use ma A h fun x st1 v H1 g1 r1 A1 h1 => ?_
    exact ⟨x, A1.br.bk, A1.ok, r1, mp _ _ _ (fun z hz => got_of g1 A1.br hz) h1⟩
/-- a test -/
def tT (c : Fx) (w : W) : TT := fun σ H Q => ∃ ρ st, At c H σ ρ st ∧ w ρ st (fun d st' => ∃ b, d = .bl b ∧ ∀ H', Gr c.β H H' → c.BrR H' st' → Q b H')
theorem tT_use {Q : Bool → Hp → Prop} {k : Post} (m : Mono w) (A : At c H σ ρ st) (h : w ρ st k) (f : ∀ d st', k d st' → ∃ b, d = .bl b ∧ ∀ H', Gr c.β H H' → At c H' σ ρ st' → Q b H') : tT c w σ H Q :=
  ⟨ρ, st, A, m _ _ _ _ (fun d st' hk => by
    obtain ⟨b, e, q⟩ := f d st' hk
    exact ⟨b, e, fun H' g br => q H' g (A.gr g br)⟩) h⟩
theorem repT_bl {v : V} {b : Bool} (h : c.RepT H v (.bl b)) : v = .bl b := by
  have h := h.rep (fun ds z => nomatch z)
  cases h; rfl
theorem repT_int {v : V} {i : Int} (h : c.RepT H v (.int i)) : v = .int i := by
  have h := h.rep (fun ds z => nomatch z)
  cases h; rfl
theorem repT_str {v : V} {i : Str} (h : c.RepT H v (.str i)) : v = .str i ∧ i.length ≤ sizeLine := by
  have h := h.rep (fun ds z => nomatch z)
  cases h; exact ⟨rfl, by assumption⟩
theorem repT_non {v : V} (h : c.RepT H v .non) : v = .non := by
  have h := h.rep (fun ds z => nomatch z)
  cases h; rfl
theorem pt_of (m : Mono w) (h : PE X e (tR c w)) (he : ∀ whole, isTrue e X.env whole = (do let v ← whole; standAt e.pos; holding [v] (truthy v))) : PT X e (tT c w) :=
  PTimp (pt_val h he) fun σ H Q ⟨ρ, st, A, hw⟩ => tG_use m A hw fun d st' v H' g r A' k => by
    obtain ⟨b, rfl, q⟩ := k
    exact ⟨b, repT_bl r, q H' g A'.br⟩
theorem pt_dcmp {op : CmpOp} {P : P2} (mp : MonoP P) (ma : Mono wa) (mb : Mono wb) (ho : OpR X (compareOp op) (rD c fr P)) (hm : behindInMarks op b = false) (ha : PE X a (tR c wa)) (hb : PE X b (tR c wb)) : PT X (.Compare a [op] [b] pos) (tT c (wOp P wa wb)) :=
  PTimp (pt_cmpR ho ha hb hm) fun σ H Q ⟨ρ, st, A, h⟩ => by
    refine op_go (fr := fr) mp ma mb ⟨ρ, st, A, wOp_mono mp ma mb _ _ _ _ (fun d st' k v H' g br r => ?_) h⟩
    obtain ⟨b, rfl, q⟩ := k
    exact ⟨b, repT_bl (.inl r.1), q H' g br⟩
/-- and, or, not -/
def wAnd (wa wb : W) : W := fun ρ st k => wa ρ st fun x st1 => ∃ b, x = .bl b ∧ if b = true then wb ρ st1 k else k (.bl false) st1
def wOr (wa wb : W) : W := fun ρ st k => wa ρ st fun x st1 => ∃ b, x = .bl b ∧ if b = true then k (.bl true) st1 else wb ρ st1 k
def wNot (wa : W) : W := fun ρ st k => wa ρ st fun x st1 => ∃ b, x = .bl b ∧ k (.bl (!b)) st1
theorem wAnd_mono (ma : Mono wa) (mb : Mono wb) : Mono (wAnd wa wb) := fun ρ st k k' f h => ma _ _ _ _ (fun x st1 ⟨b, e, h1⟩ => ⟨b, e, by
  cases b with
  | true => exact mb _ _ _ _ f h1
  | false => exact f _ _ h1⟩) h
theorem wOr_mono (ma : Mono wa) (mb : Mono wb) : Mono (wOr wa wb) := fun ρ st k k' f h => ma _ _ _ _ (fun x st1 ⟨b, e, h1⟩ => ⟨b, e, by
  cases b with
  | true => exact f _ _ h1
  | false => exact mb _ _ _ _ f h1⟩) h
theorem wNot_mono (ma : Mono wa) : Mono (wNot wa) := fun ρ st k k' f h => ma _ _ _ _ (fun x st1 ⟨b, e, h1⟩ => ⟨b, e, f _ _ h1⟩) h
variable {rest : List Expr}
theorem pd_and (ma : Mono wa) (mb : Mono wb) (ha : PE X a (tR c wa)) (hb : PE X (.BoolOp .And (b :: rest) pos) (tE c false wb)) : PE X (.BoolOp .And (a :: b :: rest) pos) (tE c false (wAnd wa wb)) :=
  PEimp (L2.pe_and ha hb) fun σ H Q ⟨ρ, st, A, h⟩ => by
    refine tG_use ma A h fun x st1 v H1 g1 r1 A1 ⟨b, e, h1⟩ => ?_
    subst e
    refine ⟨b, repT_bl r1, ?_⟩
    cases b with
    | true => exact tG_use mb A1 h1 fun y st2 u H2 g2 r2 A2 k => k u H2 (g1.trans g2) A2.br ⟨r2.1, fun z => nomatch z⟩
    | false => exact h1 _ H1 g1 A1.br ⟨.bl false, fun z => nomatch z⟩
theorem pd_or (ma : Mono wa) (mb : Mono wb) (ha : PE X a (tR c wa)) (hb : PE X (.BoolOp .Or (b :: rest) pos) (tE c false wb)) : PE X (.BoolOp .Or (a :: b :: rest) pos) (tE c false (wOr wa wb)) :=
  PEimp (L2.pe_or ha hb) fun σ H Q ⟨ρ, st, A, h⟩ => by
    refine tG_use ma A h fun x st1 v H1 g1 r1 A1 ⟨b, e, h1⟩ => ?_
    subst e
    refine ⟨b, repT_bl r1, ?_⟩
    cases b with
    | true => exact h1 _ H1 g1 A1.br ⟨.bl true, fun z => nomatch z⟩
    | false => exact tG_use mb A1 h1 fun y st2 u H2 g2 r2 A2 k => k u H2 (g1.trans g2) A2.br ⟨r2.1, fun z => nomatch z⟩
theorem pd_not (ma : Mono wa) (ha : PE X a (tR c wa)) : PE X (.UnaryOp .Not a pos) (tE c true (wNot wa)) :=
  PEimp (L2.pe_not ha) fun σ H Q ⟨ρ, st, A, h⟩ => by
    refine tG_use ma A h fun x st1 v H1 g1 r1 A1 ⟨b, e, h1⟩ => ?_
    subst e
    exact ⟨b, repT_bl r1, h1 _ H1 g1 A1.br ⟨.bl _, fun _ ds z => nomatch z⟩⟩
theorem pwd_one1 (ha : PT X a (tT c wa)) : PW X (.BoolOp .And [a] pos) (tT c wa) := pw_and1 ha
theorem pwd_one2 (ha : PT X a (tT c wa)) : PW X (.BoolOp .Or [a] pos) (tT c wa) := pw_or1 ha
theorem pwd_and (ma : Mono wa) (mb : Mono wb) (ha : PT X a (tT c wa)) (hb : PW X (.BoolOp .And (b :: rest) pos) (tT c wb)) : PW X (.BoolOp .And (a :: b :: rest) pos) (tT c (wAnd wa wb)) :=
  PWimp (L2.pw_and ha hb) fun σ H Q ⟨ρ, st, A, h⟩ => by
    refine tT_use ma A h fun x st1 ⟨b, e, h1⟩ => ⟨b, e, fun H1 g1 A1 => ?_⟩
    cases b with
    | true => exact tT_use mb A1 h1 fun y st2 ⟨b2, e2, h2⟩ => ⟨b2, e2, fun H2 g2 A2 => h2 H2 (g1.trans g2) A2.br⟩
    | false =>
      obtain ⟨b2, e2, h2⟩ := h1
      cases e2
      exact h2 H1 g1 A1.br
theorem pwd_or (ma : Mono wa) (mb : Mono wb) (ha : PT X a (tT c wa)) (hb : PW X (.BoolOp .Or (b :: rest) pos) (tT c wb)) : PW X (.BoolOp .Or (a :: b :: rest) pos) (tT c (wOr wa wb)) :=
  PWimp (L2.pw_or ha hb) fun σ H Q ⟨ρ, st, A, h⟩ => by
    refine tT_use ma A h fun x st1 ⟨b, e, h1⟩ => ⟨b, e, fun H1 g1 A1 => ?_⟩
    cases b with
    | false => exact tT_use mb A1 h1 fun y st2 ⟨b2, e2, h2⟩ => ⟨b2, e2, fun H2 g2 A2 => h2 H2 (g1.trans g2) A2.br⟩
    | true =>
      obtain ⟨b2, e2, h2⟩ := h1
      cases e2
      exact h2 H1 g1 A1.br
theorem ptd_not (ma : Mono wa) (ha : PT X a (tT c wa)) : PT X (.UnaryOp .Not a pos) (tT c (wNot wa)) :=
  PTimp (L2.pt_not ha) fun σ H Q ⟨ρ, st, A, h⟩ => by
    refine tT_use ma A h fun x st1 ⟨b, e, h1⟩ => ⟨b, e, fun H1 g1 A1 => ?_⟩
    obtain ⟨b2, e2, h2⟩ := h1
    cases e2
    exact h2 H1 g1 A1.br
/-- a if t else b -/
def wIte (wt wa wb : W) : W := fun ρ st k => wt ρ st fun x st1 => ∃ b, x = .bl b ∧ if b = true then wa ρ st1 k else wb ρ st1 k
theorem wIte_mono {wt : W} (mt : Mono wt) (ma : Mono wa) (mb : Mono wb) : Mono (wIte wt wa wb) := fun ρ st k k' f h => mt _ _ _ _ (fun x st1 ⟨b, e, h1⟩ => ⟨b, e, by
  cases b with
  | true => exact ma _ _ _ _ f h1
  | false => exact mb _ _ _ _ f h1⟩) h
theorem pd_ite {wt : W} {tt : Expr} (mt : Mono wt) (ma : Mono wa) (mb : Mono wb) (ht : PT X tt (tT c wt)) (ha : PE X a (tE c fr wa)) (hb : PE X b (tE c fr wb)) : PE X (.IfExp tt a b pos) (tE c fr (wIte wt wa wb)) :=
  PEimp (pe_ifExp ht ha hb) fun σ H Q ⟨ρ, st, A, h⟩ => by
    refine tT_use mt A h fun x st1 ⟨b, e, h1⟩ => ⟨b, e, fun H1 g1 A1 => ?_⟩
    cases b with
    | true => exact tG_use ma A1 h1 fun y st2 u H2 g2 r2 A2 k => k u H2 (g1.trans g2) A2.br ⟨r2.1, fun z => (r2.2 z).back g1 A1.br⟩
    | false => exact tG_use mb A1 h1 fun y st2 u H2 g2 r2 A2 k => k u H2 (g1.trans g2) A2.br ⟨r2.1, fun z => (r2.2 z).back g1 A1.br⟩
/-- a < b < c -/
def wChain (P P' : P2) (wa wb wc : W) : W := fun ρ st k => wa ρ st fun x st1 => wb ρ st1 fun y st2 => P x y fun z => ∃ b, z = .bl b ∧ if b = true then wc ρ st2 fun u st3 => P' y u fun z' => k z' st3 else k (.bl false) st2
theorem wChain_mono {P P' : P2} {wc : W} (mp : MonoP P) (mp' : MonoP P') (ma : Mono wa) (mb : Mono wb) (mc : Mono wc) : Mono (wChain P P' wa wb wc) := fun ρ st k k' f h =>
  ma _ _ _ _ (fun x st1 h1 => mb _ _ _ _ (fun y st2 h2 => mp _ _ _ _ (fun z ⟨b, e, h3⟩ => ⟨b, e, by
    cases b with
    | true => exact mc _ _ _ _ (fun u st3 h4 => mp' _ _ _ _ (fun z' h5 => f _ _ h5) h4) h3
    | false => exact f _ _ h3⟩) h2) h1) h
theorem chain_go {P P' : P2} {wc : W} (mp : MonoP P) (mp' : MonoP P') (ma : Mono wa) (mb : Mono wb) (mc : Mono wc) {σ H Q} (h : tE c fr (wChain P P' wa wb wc) σ H Q) :
    tChain (rD c fr P) (rD c fr P') (tR c wa) (tR c wb) (tR c wc) σ H Q := by
  obtain ⟨ρ, st, A, h⟩ := h
  refine tG_use ma A h fun x st1 v H1 g1 r1 A1 h1 => ?_
  refine tG_use mb A1 h1 fun y st2 u H2 g2 r2 A2 h2 => ?_
  refine ⟨x, y, A2.br.bk, A2.ok, RepT.gr A1.br.bk g2 r1, r2, mp _ _ _ _ (fun z ⟨b, e, hz⟩ v' H3 s3 r3 f3 => ?_) h2⟩
  subst e
  have g3 : Gr c.β H2 H3 := Gr.of s3
  have A3 := A2.gr g3 (br_same s3 A2.br)
  refine ⟨b, repT_bl (.inl r3), ?_⟩
  cases b with
  | true =>
    refine tG_use mc A3 hz fun w st4 x4 H4 g4 r4 A4 h4 => ?_
    exact ⟨y, w, A4.br.bk, A4.ok, RepT.gr A3.br.bk g4 (RepT.gr A2.br.bk g3 r2), r4, mp' _ _ _ _ (fun z' h5 => got_of (g1.trans (g2.trans (g3.trans g4))) A4.br h5) h4⟩
  | false => exact hz _ H3 (g1.trans (g2.trans g3)) A3.br ⟨.bl false, fun _ ds z => nomatch z⟩
theorem pd_chain {op op' : CmpOp} {P P' : P2} {wc : W} {d : Expr} (mp : MonoP P) (mp' : MonoP P') (ma : Mono wa) (mb : Mono wb) (mc : Mono wc) (ho : OpR X (compareOp op) (rD c fr P)) (ho' : OpR X (compareOp op') (rD c fr P'))
    (ha : PE X a (tR c wa)) (hb : PE X b (tR c wb)) (hc : PE X d (tR c wc)) (hm : lastMarks [op, op'] [b, d] = false) : PE X (.Compare a [op, op'] [b, d] pos) (tE c fr (wChain P P' wa wb wc)) :=
  PEimp (pe_chain ho ho' ha hb hc hm) fun σ H Q h => chain_go mp mp' ma mb mc h
theorem ptd_chain {op op' : CmpOp} {P P' : P2} {wc : W} {d : Expr} (mp : MonoP P) (mp' : MonoP P') (ma : Mono wa) (mb : Mono wb) (mc : Mono wc) (ho : OpR X (compareOp op) (rD c fr P)) (ho' : OpR X (compareOp op') (rD c fr P'))
    (ha : PE X a (tR c wa)) (hb : PE X b (tR c wb)) (hc : PE X d (tR c wc)) (hm : lastMarks [op, op'] [b, d] = false) : PT X (.Compare a [op, op'] [b, d] pos) (tT c (wChain P P' wa wb wc)) :=
  PTimp (pt_chain ho ho' ha hb hc hm) fun σ H Q ⟨ρ, st, A, h⟩ => by
    refine chain_go (fr := fr) mp mp' ma mb mc ⟨ρ, st, A, wChain_mono mp mp' ma mb mc _ _ _ _ (fun d st' k v H' g br r => ?_) h⟩
    obtain ⟨b, rfl, q⟩ := k
    exact ⟨b, repT_bl (.inl r.1), q H' g br⟩

/-! ### argument lists, displays, calls of built-ins -/
abbrev WL := En → DS → (DS → DS → Prop) → Prop
def MonoL (w : WL) : Prop := ∀ ρ st k k', (∀ d s, k d s → k' d s) → w ρ st k → w ρ st k'
def wNil : WL := fun _ st k => k [] st
def wCons (w : W) (ws : WL) : WL := fun ρ st k => w ρ st fun x st1 => ws ρ st1 fun xs st2 => k (x :: xs) st2
def wStar (w : W) (ws : WL) : WL := fun ρ st k => w ρ st fun x st1 => ∃ ys, (x = .tup ys ∨ x = .lst ys) ∧ ws ρ st1 fun xs st2 => k (ys ++ xs) st2
theorem wNil_mono : MonoL wNil := fun _ _ _ _ f h => f _ _ h
theorem wCons_mono {ws : WL} (m : Mono w) (ms : MonoL ws) : MonoL (wCons w ws) := fun ρ st k k' f h => m _ _ _ _ (fun x st1 h1 => ms _ _ _ _ (fun xs st2 h2 => f _ _ h2) h1) h
theorem wStar_mono {ws : WL} (m : Mono w) (ms : MonoL ws) : MonoL (wStar w ws) := fun ρ st k k' f h => m _ _ _ _ (fun x st1 ⟨ys, e, h1⟩ => ⟨ys, e, ms _ _ _ _ (fun xs st2 h2 => f _ _ h2) h1⟩) h
inductive RepTL (c : Fx) (H : Hp) : List V → DS → Prop
  | nil : RepTL c H [] []
  | cons {v : V} {d : D} {vs : List V} {ds : DS} : c.RepT H v d → RepTL c H vs ds → RepTL c H (v :: vs) (d :: ds)
theorem RepTL.gr {H' : Hp} (b : c.Bk H) (g : Gr c.β H H') : ∀ {vs : List V} {ds : DS}, RepTL c H vs ds → RepTL c H' vs ds
  | _, _, .nil => .nil
  | _, _, .cons h r => .cons (RepT.gr b g h) (r.gr b g)
theorem RepTL.of : ∀ {vs : List V} {ds : DS}, c.RepL H vs ds → RepTL c H vs ds
  | _, _, .nil => .nil
  | _, _, .cons h r => .cons (.inl h) (RepTL.of r)
abbrev RLK := Hp → List V → DS → Prop
def tL (c : Fx) (R : RLK) (w : WL) : TA := fun σ H Q => ∃ ρ st, At c H σ ρ st ∧ w ρ st (fun ds st' => ∀ vs H', Gr c.β H H' → c.BrR H' st' → R H' vs ds → Q vs H')
theorem tL_use {Rl : RLK} {ws : WL} {Q : List V → Hp → Prop} {k : DS → DS → Prop} (m : MonoL ws) (A : At c H σ ρ st) (h : ws ρ st k) (f : ∀ ds st' vs H', Gr c.β H H' → Rl H' vs ds → At c H' σ ρ st' → k ds st' → Q vs H') : tL c Rl ws σ H Q :=
  ⟨ρ, st, A, m _ _ _ _ (fun d st' hk v H' g b r => f d st' v H' g r (A.gr g b) hk) h⟩
theorem pl_nil : PA X [] (tL c c.RepL wNil) := PAimp pa_nil fun σ H Q ⟨ρ, st, A, h⟩ => h [] H (Gr.refl H) A.br .nil
theorem plr_nil : PA X [] (tL c (RepTL c) wNil) := PAimp pa_nil fun σ H Q ⟨ρ, st, A, h⟩ => h [] H (Gr.refl H) A.br .nil
theorem pl_cons {es : List Expr} {ws : WL} (m : Mono w) (ms : MonoL ws) (h : PE X e (tE c fr w)) (hs : PA X es (tL c c.RepL ws)) (he : starEach (e :: es) X.env = (false, eval e X.env) :: starEach es X.env) : PA X (e :: es) (tL c c.RepL (wCons w ws)) :=
  PAimp (pa_cons h hs he) fun σ H Q ⟨ρ, st, A, hw⟩ => by
    refine tG_use m A hw fun x st1 v H1 g1 r1 A1 h1 => ?_
    refine tL_use ms A1 h1 fun xs st2 vs H2 g2 r2 A2 k => ?_
    exact k _ H2 (g1.trans g2) A2.br (.cons (r1.1.gr A1.br.bk g2) r2)
theorem plr_cons {es : List Expr} {ws : WL} (m : Mono w) (ms : MonoL ws) (h : PE X e (tR c w)) (hs : PA X es (tL c (RepTL c) ws)) (he : starEach (e :: es) X.env = (false, eval e X.env) :: starEach es X.env) : PA X (e :: es) (tL c (RepTL c) (wCons w ws)) :=
  PAimp (pa_cons h hs he) fun σ H Q ⟨ρ, st, A, hw⟩ => by
    refine tG_use m A hw fun x st1 v H1 g1 r1 A1 h1 => ?_
    refine tL_use ms A1 h1 fun xs st2 vs H2 g2 r2 A2 k => ?_
    exact k _ H2 (g1.trans g2) A2.br (.cons (RepT.gr A1.br.bk g2 r1) r2)
theorem pl_star {es : List Expr} {ws : WL} {p : Pos} (hK : c.K = X.K) (m : Mono w) (ms : MonoL ws) (h : PE X e (tR c w)) (hs : PA X es (tL c c.RepL ws)) (he : starEach (.Starred e p :: es) X.env = (true, eval e X.env) :: starEach es X.env) : PA X (.Starred e p :: es) (tL c c.RepL (wStar w ws)) :=
  PAimp (StX.pa_star h hs he) fun σ H Q ⟨ρ, st, A, hw⟩ => by
    refine tG_use m A hw fun x st1 v H1 g1 r1 A1 ⟨ys, e, h1⟩ => ?_
    rcases e with e | e
    · subst e
      obtain ⟨a, ws', rfl, z, hq, hl⟩ := RepT.tup r1
      refine ⟨a, ws', rfl, .inl (hK ▸ hq), ?_⟩
      refine tL_use ms A1 h1 fun xs st2 vs H2 g2 r2 A2 k => ?_
      exact k _ H2 (g1.trans g2) A2.br ((hl.gr A1.br.bk g2).append r2)
    · subst e
      obtain ⟨a, ws', rfl, z, hq, hl⟩ := RepT.seq r1
      refine ⟨a, ws', rfl, .inr (.inl (.inl hq)), ?_⟩
      refine tL_use ms A1 h1 fun xs st2 vs H2 g2 r2 A2 k => ?_
      exact k _ H2 (g1.trans g2) A2.br ((hl.gr A1.br.bk g2).append r2)
def wTup (ws : WL) : W := fun ρ st k => ws ρ st fun xs st1 => xs.length ≤ sizeLine ∧ k (.tup xs) st1
def wLst (ws : WL) : W := fun ρ st k => ws ρ st fun xs st1 => xs.length ≤ sizeLine ∧ k (.lst xs) st1
theorem wTup_mono {ws : WL} (m : MonoL ws) : Mono (wTup ws) := fun ρ st k k' f h => m _ _ _ _ (fun x st1 ⟨z, h1⟩ => ⟨z, f _ _ h1⟩) h
theorem wLst_mono {ws : WL} (m : MonoL ws) : Mono (wLst ws) := fun ρ st k k' f h => m _ _ _ _ (fun x st1 ⟨z, h1⟩ => ⟨z, f _ _ h1⟩) h
theorem same_new {H : Hp} {p : Addr} {o : HO} (h : H p = none) : Same H (upd H p o) := fun b x e => by
  rw [upd_ne (ne_of_none e h)]; exact e
theorem rep_newT {H : Hp} {p : Addr} {vs : List V} {ds : DS} (b : c.Bk H) (z : vs.length ≤ sizeLine) (h : H p = none) (r : c.RepL H vs ds) : c.Rep (upd H p (.tup vs)) (.ref p) (.tup ds) :=
  .tup z (.inl (.inl upd_same)) (r.gr b (Gr.of (same_new h)))
theorem rep_newL {H : Hp} {p : Addr} {vs : List V} {ds : DS} (b : c.Bk H) (k : OkO c.O H) (z : vs.length ≤ sizeLine) (h : H p = none) (r : c.RepL H vs ds) : c.Rep (upd H p (.lst vs)) (.ref p) (.lst ds) :=
  .lst z (k.no h) upd_same (r.gr b (Gr.of (same_new h)))
theorem fresh_newL {H : Hp} {p : Addr} {vs : List V} {ds : DS} (b : c.Bk H) (z : vs.length ≤ sizeLine) (h : H p = none) (r : c.RepL H vs ds) : Fresh c H (upd H p (.lst vs)) (.ref p) (.lst ds) := fun ds' e => by
  cases e
  exact ⟨p, vs, rfl, h, upd_same, z, (r.moreO fun a q => q.elim .inl fun e => .inr (e ▸ h)).sameH (same_new h)⟩
theorem fresh_no {H H' : Hp} {v : V} {d : D} (n : ∀ ds, d ≠ .lst ds) : Fresh c H H' v d := fun ds e => absurd e (n ds)
/-- a new tuple, a new list comes -/
theorem got_tup {H : Hp} {Q : VK} {p : Addr} {vs : List V} {ds : DS} (b : c.Bk H) (z : vs.length ≤ sizeLine) (h : H p = none) (r : c.RepL H vs ds) (q : Got c fr H Q (.tup ds)) : Q (.ref p) (upd H p (.tup vs)) :=
  q _ _ (same_new h) (rep_newT b z h r) fun _ => fresh_no fun ds e => nomatch e
theorem got_lst {H : Hp} {Q : VK} {p : Addr} {vs : List V} {ds : DS} (b : c.Bk H) (k : OkO c.O H) (z : vs.length ≤ sizeLine) (h : H p = none) (r : c.RepL H vs ds) (q : Got c fr H Q (.lst ds)) : Q (.ref p) (upd H p (.lst vs)) :=
  q _ _ (same_new h) (rep_newL b k z h r) fun _ => fresh_newL b z h r
theorem got_at {H : Hp} {Q : VK} {v : V} {d : D} (r : c.Rep H v d) (f : fr = true → ∀ ds, d ≠ .lst ds) (q : Got c fr H Q d) : Q v H :=
  q v H (Same.refl H) r fun e => fresh_no (f e)
theorem pd_tup {es : List Expr} {ws : WL} {x1} (ms : MonoL ws) (h : PA X es (tL c c.RepL ws)) : PE X (.Tuple es x1 pos) (tE c true (wTup ws)) :=
  PEimp (pe_tup h) fun σ H Q ⟨ρ, st, A, hw⟩ => by
    refine tL_use ms A hw fun xs st1 vs H1 g1 r1 A1 ⟨z, k⟩ => ?_
    refine ⟨by rw [r1.length]; exact z, fun p hp => ?_⟩
    exact got_tup A1.br.bk (by rw [r1.length]; exact z) hp r1 (got_of g1 A1.br k)
theorem pd_lst {es : List Expr} {ws : WL} (ms : MonoL ws) (h : PA X es (tL c c.RepL ws)) : PE X (.List es pos) (tE c true (wLst ws)) :=
  PEimp (pe_lst h) fun σ H Q ⟨ρ, st, A, hw⟩ => by
    refine tL_use ms A hw fun xs st1 vs H1 g1 r1 A1 ⟨z, k⟩ => ?_
    refine ⟨by rw [r1.length]; exact z, fun p hp => ?_⟩
    exact got_lst A1.br.bk A1.ok (by rw [r1.length]; exact z) hp r1 (got_of g1 A1.br k)
/-- a built-in by values -/
abbrev PL := DS → (D → Prop) → Prop
def MonoPL (P : PL) : Prop := ∀ x k k', (∀ d, k d → k' d) → P x k → P x k'
def rDL (c : Fx) (fr : Bool) (P : PL) : List V → Hp → VK → Prop := fun xs H Q => ∃ ds, c.Bk H ∧ OkO c.O H ∧ RepTL c H xs ds ∧ P ds (Got c fr H Q)
def wCall (P : PL) (ws : WL) : W := fun ρ st k => ws ρ st fun xs st1 => P xs fun z => k z st1
theorem wCall_mono {P : PL} {ws : WL} (mp : MonoPL P) (m : MonoL ws) : Mono (wCall P ws) := fun ρ st k k' f h => m _ _ _ _ (fun x st1 h1 => mp _ _ _ (fun z hz => f _ _ hz) h1) h
theorem call_go {P : PL} {ws : WL} (mp : MonoPL P) (ms : MonoL ws) {σ H Q} (h : tE c fr (wCall P ws) σ H Q) : tCB (rDL c fr P) (tL c (RepTL c) ws) σ H Q := by
  obtain ⟨ρ, st, A, hw⟩ := h
  refine tL_use ms A hw fun xs st1 vs H1 g1 r1 A1 k => ?_
  exact ⟨xs, A1.br.bk, A1.ok, r1, mp _ _ _ (fun z hz => got_of g1 A1.br hz) k⟩
end
end QL
namespace QL
open PySem PySem.Spec PyProof.Rows L2
/-! ### what operators say of data -/
def addP : P2
  | .int i, .int j, k => k (.int (i + j))
  | .tup xs, .tup ys, k => xs.length + ys.length ≤ sizeLine ∧ k (.tup (xs ++ ys))
  | .lst xs, .lst ys, k => xs.length + ys.length ≤ sizeLine ∧ k (.lst (xs ++ ys))
  | .str x, .str y, k => x.length + y.length ≤ sizeLine ∧ k (.str (x ++ y))
  | _, _, _ => False
def subP : P2
  | .int i, .int j, k => k (.int (i - j))
  | _, _, _ => False
def repD (n : Nat) (xs : DS) : DS := (List.replicate n xs).flatten
def mulP : P2
  | .int i, .int j, k => CMulW i j ∧ k (.int (i * j))
  | .tup xs, .int n, k => n ≤ 1000 ∧ xs.length ≤ 1000 ∧ 0 ≤ n ∧ k (.tup (repD n.toNat xs))
  | .lst xs, .int n, k => n ≤ 1000 ∧ xs.length ≤ 1000 ∧ 0 ≤ n ∧ k (.lst (repD n.toNat xs))
  | _, _, _ => False
def fdivP : P2
  | .int i, .int j, k => CDivW i j ∧ k (.int (i / j))
  | _, _, _ => False
def modP : P2
  | .int i, .int j, k => 0 < j ∧ k (.int (i % j))
  | _, _, _ => False
def powP : P2
  | .int i, .int j, k => CPow i j ∧ k (.int (i ^ j.toNat))
  | _, _, _ => False
def negP : P1
  | .int i, k => k (.int (-i))
  | _, _ => False
theorem addP_mono : MonoP addP := fun x y k k' f h => by
  cases x <;> cases y <;> first | exact False.elim h | exact f _ h | exact ⟨h.1, f _ h.2⟩ | exact ⟨h.1, h.2.1, h.2.2.1, f _ h.2.2.2⟩
theorem subP_mono : MonoP subP := fun x y k k' f h => by
  cases x <;> cases y <;> first | exact False.elim h | exact f _ h | exact ⟨h.1, f _ h.2⟩ | exact ⟨h.1, h.2.1, h.2.2.1, f _ h.2.2.2⟩
theorem mulP_mono : MonoP mulP := fun x y k k' f h => by
  cases x <;> cases y <;> first | exact False.elim h | exact f _ h | exact ⟨h.1, f _ h.2⟩ | exact ⟨h.1, h.2.1, h.2.2.1, f _ h.2.2.2⟩
theorem fdivP_mono : MonoP fdivP := fun x y k k' f h => by
  cases x <;> cases y <;> first | exact False.elim h | exact f _ h | exact ⟨h.1, f _ h.2⟩ | exact ⟨h.1, h.2.1, h.2.2.1, f _ h.2.2.2⟩
theorem modP_mono : MonoP modP := fun x y k k' f h => by
  cases x <;> cases y <;> first | exact False.elim h | exact f _ h | exact ⟨h.1, f _ h.2⟩ | exact ⟨h.1, h.2.1, h.2.2.1, f _ h.2.2.2⟩
theorem powP_mono : MonoP powP := fun x y k k' f h => by
  cases x <;> cases y <;> first | exact False.elim h | exact f _ h | exact ⟨h.1, f _ h.2⟩ | exact ⟨h.1, h.2.1, h.2.2.1, f _ h.2.2.2⟩
theorem negP_mono : MonoP1 negP := fun x k k' f h => by
  cases x <;> first | exact False.elim h | exact f _ h

section
variable {X : Cx} {c : Fx} {fr : Bool} {pins : List (Addr × Obj)} {σ : L2.St} {H : Hp} {s : Shared} {Q : VK}
theorem got_int {i : Int} (q : Got c fr H Q (.int i)) : Q (.int i) H := got_at (.int i) (fun _ ds e => nomatch e) q
theorem got_bl {i : Bool} (q : Got c fr H Q (.bl i)) : Q (.bl i) H := got_at (.bl i) (fun _ ds e => nomatch e) q
theorem got_str {i : Str} (z : i.length ≤ sizeLine) (q : Got c fr H Q (.str i)) : Q (.str i) H := got_at (.str i z) (fun _ ds e => nomatch e) q
theorem got_non (q : Got c fr H Q .non) : Q .non H := got_at .non (fun _ ds e => nomatch e) q
/-- the object of a list that is read -/
theorem rdL_obj {a : Addr} {vs : List V} (I : Inv X pins σ H s) (h : H a = some (.lst vs)) : ∃ its n, Vals vs its ∧ s.heap.get? a = some { cls := .type "list", data := .seq its.toArray n } := by
  obtain ⟨_, its, n, r, e⟩ := I.hok a _ h
  exact ⟨its, n, r, e⟩
theorem I_newL {vs : List V} {its : List Value} {n : Nat} {t' : Nat} (I : Inv X pins σ H s) (r : Vals vs its) (z : vs.length ≤ sizeLine) :
    Inv X pins σ (upd H s.heap.objs.size (.lst vs)) { s with heap := s.heap.push { cls := .type "list", data := .seq its.toArray n }, toks := t' } :=
  I.laid (t' := t') (fun b o q => Heap.get?_push_of_some _ q) (Nat.le_refl _) ⟨z, its, n, r, Heap.get?_push_size _ rfl⟩
theorem opd_add (hK : c.K = X.K) : OpR X (binaryOp .Add) (rD c true addP) := by
  intro pins s σ H x y v u Q I rx ry ⟨dx, dy, bk, ok, hx, hy, h⟩
  unfold addP at h
  split at h
  · have e1 := repT_int hx; have e2 := repT_int hy
    subst e1 e2
    exact op_add pins s σ H _ _ v u Q I rx ry ⟨_, _, rfl, rfl, got_int h⟩
  · obtain ⟨z, h⟩ := h
    obtain ⟨a, vs, rfl, z1, h1, r1⟩ := RepT.tup hx
    obtain ⟨b, ws, rfl, z2, h2, r2⟩ := RepT.tup hy
    have hl : vs.length + ws.length ≤ sizeLine := by rw [r1.length, r2.length]; exact z
    refine op_catA pins s σ H _ _ v u Q I rx ry ⟨a, b, vs, ws, rfl, rfl, hK ▸ h1, hK ▸ h2, hl, fun e => ?_, fun e1 e2 => ?_, fun e1 e2 p hp => ?_⟩
    · subst e
      cases r1
      exact got_at (.tup z2 h2 r2) (fun _ ds e => nomatch e) h
    · subst e2
      cases r2
      rw [List.append_nil] at h
      exact got_at (.tup z1 h1 r1) (fun _ ds e => nomatch e) h
    · exact got_tup bk (by rw [List.length_append]; exact hl) hp (r1.append r2) h
  · obtain ⟨z, h⟩ := h
    obtain ⟨a, vs, rfl, z1, h1, r1⟩ := RepT.seq hx
    obtain ⟨b, ws, rfl, z2, h2, r2⟩ := RepT.seq hy
    have hl : vs.length + ws.length ≤ sizeLine := by rw [r1.length, r2.length]; exact z
    cases rx
    cases ry
    obtain ⟨its, n, q1, e1⟩ := rdL_obj I h1
    obtain ⟨its2, n2, q2, e2⟩ := rdL_obj I h2
    have l1 := q1.length
    have l2 := q2.length
    refine PySem.P.add_list e1 e2 ?_ (by rw [List.size_toArray, List.size_toArray]; omega)
    have ea : its.toArray ++ its2.toArray = (its ++ its2).toArray := by simp
    rw [ea]
    exact ⟨.ref _, _, I_newL (t' := s.toks) I (q1.append q2) (by rw [List.length_append]; exact hl), rfl, got_lst bk ok (by rw [List.length_append]; exact hl) (I.hok.fresh (Nat.le_refl _)) (r1.append r2) h⟩
  · obtain ⟨z, h⟩ := h
    obtain ⟨e1, z1⟩ := repT_str hx
    obtain ⟨e2, z2⟩ := repT_str hy
    subst e1 e2
    refine op_add_str pins s σ H _ _ v u Q I rx ry ⟨_, _, rfl, rfl, z, got_str ?_ h⟩
    rw [PySem.Str.length_append]
    exact z
  · exact h.elim
theorem opd_sub : OpR X (binaryOp .Sub) (rD c true subP) := by
  intro pins s σ H x y v u Q I rx ry ⟨dx, dy, bk, ok, hx, hy, h⟩
  unfold subP at h
  split at h
  · have e1 := repT_int hx; have e2 := repT_int hy
    subst e1 e2
    exact op_sub pins s σ H _ _ v u Q I rx ry ⟨_, _, rfl, rfl, got_int h⟩
  · exact h.elim
theorem opd_fdiv : OpR X (binaryOp .FloorDiv) (rD c true fdivP) := by
  intro pins s σ H x y v u Q I rx ry ⟨dx, dy, bk, ok, hx, hy, h⟩
  unfold fdivP at h
  split at h
  · have e1 := repT_int hx; have e2 := repT_int hy
    subst e1 e2
    exact op_fdivW pins s σ H _ _ v u Q I rx ry ⟨_, _, rfl, rfl, h.1, got_int h.2⟩
  · exact h.elim
theorem opd_mod : OpR X (binaryOp .Mod) (rD c true modP) := by
  intro pins s σ H x y v u Q I rx ry ⟨dx, dy, bk, ok, hx, hy, h⟩
  unfold modP at h
  split at h
  · have e1 := repT_int hx; have e2 := repT_int hy
    subst e1 e2
    exact op_mod pins s σ H _ _ v u Q I rx ry ⟨_, _, rfl, rfl, h.1, got_int h.2⟩
  · exact h.elim
theorem opd_pow : OpR X (binaryOp .Pow) (rD c true powP) := by
  intro pins s σ H x y v u Q I rx ry ⟨dx, dy, bk, ok, hx, hy, h⟩
  unfold powP at h
  split at h
  · have e1 := repT_int hx; have e2 := repT_int hy
    subst e1 e2
    exact op_pow pins s σ H _ _ v u Q I rx ry ⟨_, _, rfl, rfl, h.1, got_int h.2⟩
  · exact h.elim
theorem und_neg : UnR X (unaryOp .USub) (rD1 c true negP) := by
  intro pins s σ H x v Q I rx ⟨dx, bk, ok, hx, h⟩
  unfold negP at h
  split at h
  · have e1 := repT_int hx
    subst e1
    exact un_neg pins s σ H _ v Q I rx ⟨_, rfl, got_int h⟩
  · exact h.elim
end

/-! ### tuple * int, the cases of the layer's rule aside -/
theorem tuple_mul_self (l : Addr) (items : Array Value) (n : Nat) (dd : Option Addr) (sl : Array (Option Value)) (x : Int) (u : Tok) (c0 : (decide (x < -(2 ^ 63)) || decide (x ≥ 2 ^ 63)) = false) (c1 : (items.isEmpty || x == 1) = true) :
    Meets (Builtin.«tuple.__mul__» ⟨[.ref l, .int x u], []⟩) (fun _ R s => s.heap.get? l = some { cls := .type "tuple", dict := dd, data := .seq items n, slots := sl } ∧ R (.ok (.ret (Value.ref l))) s) :=
  .of_wp fun prog w A R s h => by
    obtain ⟨hp, g, d, tk, os⟩ := s
    obtain ⟨hl, h⟩ := h
    have f1 := AutoSeq1.idx_int
    wp_walk using wpAny_loadPart' hl
    repeat (first
      | (refine wpAny_ite_false (decide_eq_false (by rw [c0]; exact Bool.false_ne_true)) ?_; wp_walk using wpAny_loadPart' hl)
      | (refine wpAny_ite_true (decide_eq_true c1) ?_; wp_walk using wpAny_loadPart' hl))
    exact ⟨_, rfl, h⟩
theorem tuple_mul_none (l : Addr) (items : Array Value) (n : Nat) (dd : Option Addr) (sl : Array (Option Value)) (x : Int) (u : Tok) (c0 : (decide (x < -(2 ^ 63)) || decide (x ≥ 2 ^ 63)) = false) (c1 : (items.isEmpty || x == 1) = false) (c2 : (decide (x ≤ 0) || items.isEmpty) = true) :
    Meets (Builtin.«tuple.__mul__» ⟨[.ref l, .int x u], []⟩) (fun _ R s => s.heap.get? l = some { cls := .type "tuple", dict := dd, data := .seq items n, slots := sl } ∧
      R (.ok (.ret (Value.ref s.heap.objs.size))) { s with heap := s.heap.push { cls := Value.type "tuple", data := Data.seq #[] } }) :=
  .of_wp fun prog w A R s h => by
    obtain ⟨hp, g, d, tk, os⟩ := s
    obtain ⟨hl, h⟩ := h
    have f1 := AutoSeq1.idx_int
    wp_walk using wpAny_loadPart' hl
    repeat (first
      | (refine wpAny_ite_false (decide_eq_false (by rw [c0]; exact Bool.false_ne_true)) ?_; wp_walk using wpAny_loadPart' hl)
      | (refine wpAny_ite_false (decide_eq_false (by rw [c1]; exact Bool.false_ne_true)) ?_; wp_walk using wpAny_loadPart' hl)
      | (refine wpAny_ite_true (decide_eq_true c2) ?_; wp_walk using wpAny_loadPart' hl))
    exact ⟨_, rfl, h⟩
section
variable {X : Cx} {c : Fx}
theorem vals_rep {vs : List V} {its : List Value} (r : Vals vs its) : ∀ n, Vals (List.replicate n vs).flatten (List.replicate n its).flatten
  | 0 => .nil
  | n + 1 => by
    rw [List.replicate_succ, List.replicate_succ, List.flatten_cons, List.flatten_cons]
    exact r.append (vals_rep r n)
theorem repL_rep {H : Hp} {vs : List V} {ds : DS} (r : c.RepL H vs ds) : ∀ n, c.RepL H (List.replicate n vs).flatten (repD n ds)
  | 0 => .nil
  | n + 1 => by
    unfold repD
    rw [List.replicate_succ, List.replicate_succ, List.flatten_cons, List.flatten_cons]
    exact r.append (repL_rep r n)
theorem len_rep {α : Type} (xs : List α) : ∀ n, (List.replicate n xs).flatten.length = n * xs.length
  | 0 => by simp
  | n + 1 => by rw [List.replicate_succ, List.flatten_cons, List.length_append, len_rep xs n, Nat.add_mul, Nat.one_mul, Nat.add_comm]
theorem rep_small {α : Type} {xs : List α} {n : Int} (h : n ≤ 1000) (z : xs.length ≤ 1000) : (List.replicate n.toNat xs).flatten.length ≤ sizeLine := by
  rw [len_rep, sizeLine_eq]
  have a1 : n.toNat * xs.length ≤ 1000 * 1000 := Nat.mul_le_mul (by omega) z
  omega
theorem opd_mul (hK : c.K = X.K) : OpR X (binaryOp .Mult) (rD c true mulP) := by
  intro pins s σ H x y v u Q I rx ry ⟨dx, dy, bk, ok, hx, hy, h⟩
  unfold mulP at h
  split at h
  · have e1 := repT_int hx; have e2 := repT_int hy
    subst e1 e2
    exact op_mulW pins s σ H _ _ v u Q I rx ry ⟨_, _, rfl, rfl, h.1, got_int h.2⟩
  · rename_i xs n
    obtain ⟨hn, hz, h0, h⟩ := h
    obtain ⟨a, vs, rfl, z1, h1, r1⟩ := RepT.tup hx
    have e2 := repT_int hy
    subst e2
    have zl : vs.length ≤ 1000 := by rw [r1.length]; exact hz
    by_cases two : vs ≠ [] ∧ 2 ≤ n
    · exact op_repT pins s σ H _ _ v u Q I rx ry ⟨a, n, vs, rfl, rfl, hK ▸ h1, two.1, two.2, hn, zl, fun p hp => got_tup bk (rep_small hn zl) hp (repL_rep r1 _) h⟩
    cases rx
    obtain ⟨t, rfl⟩ := ry
    obtain ⟨its, r, ⟨⟨cls, dd, data, sl⟩, ho, hc, m, hd⟩, hs⟩ := I.tuple (hK ▸ h1 : SqT X.K H a vs)
    simp only at hc hd
    subst hc hd
    have hle := r.length
    have c0 : (decide (n < -(2 ^ 63)) || decide (n ≥ 2 ^ 63)) = false := by
      rw [decide_eq_false (by omega), decide_eq_false (by omega)] <;> rfl
    have cs : vs = [] ∨ n = 1 ∨ (n = 0 ∧ vs ≠ []) := by
      by_cases e : vs = []
      · exact .inl e
      · have hn2 : ¬ 2 ≤ n := fun q => two ⟨e, q⟩
        by_cases q : n = 1
        · exact .inr (.inl q)
        · exact .inr (.inr ⟨by omega, e⟩)
    by_cases c1 : (its.toArray.isEmpty || n == 1) = true
    · have self : repD n.toNat xs = xs := by
        rcases cs with e | e | ⟨e, e'⟩
        · subst e
          cases r1
          unfold repD
          simp
        · subst e
          unfold repD
          simp
        · subst e
          cases its with
          | nil => rw [List.length_nil] at hle; exact absurd (List.eq_nil_of_length_eq_zero hle) e'
          | cons _ _ => cases c1
      rw [self] at h
      refine wpAny_binaryOp_repeat_ref (T := "tuple") (U := "int") (by decide) ⟨_, ho, rfl⟩ (fun s' => typeIs_int s' n t) noFill_tuple_mul F.fills_int_mul F.slot_int_rmul repeat_tuple F.slot_int_index.lookup ?_
      refine call_meets F.slot_int_rmul (typeIs_int s n t) F.entry_int_rmul (F.args_int_rmul_2 _ _) (int_rmul_tuple n t a its.toArray m dd sl) ⟨ho, rfl, ⟨_, ho, rfl⟩, ?_⟩
      refine call_meets F.slot_tuple_mul ⟨_, ho, rfl⟩ F.entry_tuple_mul (F.args_tuple_mul_2 _ _) (tuple_mul_self a its.toArray m dd sl n t c0 c1) ⟨ho, ?_⟩
      exact ⟨.ref a, H, I, rfl, got_at (.tup z1 h1 r1) (fun _ ds e => nomatch e) h⟩
    · have c1' : (its.toArray.isEmpty || n == 1) = false := by
        cases q : (its.toArray.isEmpty || n == 1) with
        | false => rfl
        | true => exact absurd q c1
      have e0 : n = 0 := by
        rcases cs with e | e | e
        · subst e
          have : its = [] := List.eq_nil_of_length_eq_zero (by rw [← hle]; rfl)
          subst this
          cases c1'
        · subst e
          rw [Bool.or_eq_false_iff] at c1'
          exact absurd c1'.2 (by decide)
        · exact e.1
      subst e0
      refine wpAny_binaryOp_repeat_ref (T := "tuple") (U := "int") (by decide) ⟨_, ho, rfl⟩ (fun s' => typeIs_int s' 0 t) noFill_tuple_mul F.fills_int_mul F.slot_int_rmul repeat_tuple F.slot_int_index.lookup ?_
      refine call_meets F.slot_int_rmul (typeIs_int s 0 t) F.entry_int_rmul (F.args_int_rmul_2 _ _) (int_rmul_tuple 0 t a its.toArray m dd sl) ⟨ho, rfl, ⟨_, ho, rfl⟩, ?_⟩
      refine call_meets F.slot_tuple_mul ⟨_, ho, rfl⟩ F.entry_tuple_mul (F.args_tuple_mul_2 _ _) (tuple_mul_none a its.toArray m dd sl 0 t c0 c1' rfl) ⟨ho, ?_⟩
      refine ⟨.ref s.heap.objs.size, _, I.laid (t' := s.toks) (o := .tup []) (fun b ob q => Heap.get?_push_of_some _ q) (Nat.le_refl _) ⟨Nat.zero_le _, [], .nil, ⟨_, Heap.get?_push_size _ rfl, rfl, _, rfl⟩⟩, rfl, ?_⟩
      exact got_tup (ds := []) bk (Nat.zero_le _) (I.hok.fresh (Nat.le_refl _)) .nil h
  · rename_i xs n
    obtain ⟨hn, hz, h0, h⟩ := h
    obtain ⟨a, vs, rfl, z1, h1, r1⟩ := RepT.seq hx
    have e2 := repT_int hy
    subst e2
    have zl : vs.length ≤ 1000 := by rw [r1.length]; exact hz
    have hs := rep_small hn zl
    refine op_rep pins s σ H _ _ v u Q I rx ry ⟨a, n, vs, rfl, rfl, h1, by omega, by omega, ?_, fun p hp => got_lst bk ok hs hp (repL_rep r1 _) h⟩
    rw [len_rep, Nat.mul_comm] at hs
    exact hs
  · exact h.elim
end
end QL
namespace QL
open PySem PySem.Spec PyProof.Rows L2
/-! ### equality of data -/
mutual
def eqD : D → D → Bool
  | .non, .non => true
  | .bl a, .bl b => a == b
  | .bl a, .int j => (if a then 1 else 0) == j
  | .int i, .bl b => i == (if b then 1 else 0)
  | .int i, .int j => i == j
  | .str x, .str y => x == y
  | .lst xs, .lst ys => eqDL xs ys
  | .tup xs, .tup ys => eqDL xs ys
  | _, _ => false
def eqDL : DS → DS → Bool
  | [], [] => true
  | x :: xs, y :: ys => eqD x y && eqDL xs ys
  | _, _ => false
end
mutual
def toP : D → PyData
  | .non => .none
  | .bl b => .bool b
  | .int i => .int i
  | .str x => .str x
  | .tup xs => .tuple (toPL xs)
  | .lst xs => .list (toPL xs)
  | .brook => .none
  | .scr _ => .none
  | .raw _ => .none
def toPL : DS → List PyData
  | [] => []
  | x :: xs => toP x :: toPL xs
end
/-- data of a depth up to n, without functions and the like -/
def okD : Nat → D → Bool
  | _, .non => true
  | _, .bl _ => true
  | _, .int _ => true
  | _, .str x => PyData.strOk x
  | n + 1, .tup xs => xs.all (okD n)
  | n + 1, .lst xs => xs.all (okD n)
  | _, _ => false
mutual
theorem eqv_toP : ∀ (x y : D) (n m : Nat), okD n x = true → okD m y = true → PyData.eqv (toP x) (toP y) = eqD x y
  | .non, y, n, m, hx, hy => by cases y <;> first | rfl | (unfold okD at hy; cases m <;> cases hy) | (cases m <;> simp [okD] at hy <;> rfl)
  | .bl _, y, n, m, hx, hy => by cases y <;> first | rfl | (cases m <;> simp [okD] at hy)
  | .int _, y, n, m, hx, hy => by cases y <;> first | rfl | (cases m <;> simp [okD] at hy)
  | .str _, y, n, m, hx, hy => by cases y <;> first | rfl | (cases m <;> simp [okD] at hy)
  | .tup xs, y, n, m, hx, hy => by
    cases n with
    | zero => simp [okD] at hx
    | succ n =>
      cases y with
      | tup ys =>
        cases m with
        | zero => simp [okD] at hy
        | succ m =>
          simp only [okD, List.all_eq_true] at hx hy
          simp only [toP, PyData.eqv, eqD]
          exact eqv_toPL xs ys n m hx hy
      | _ => first | rfl | (cases m <;> simp [okD] at hy)
  | .lst xs, y, n, m, hx, hy => by
    cases n with
    | zero => simp [okD] at hx
    | succ n =>
      cases y with
      | lst ys =>
        cases m with
        | zero => simp [okD] at hy
        | succ m =>
          simp only [okD, List.all_eq_true] at hx hy
          simp only [toP, PyData.eqv, eqD]
          exact eqv_toPL xs ys n m hx hy
      | _ => first | rfl | (cases m <;> simp [okD] at hy)
  | .brook, y, n, m, hx, hy => by cases n <;> simp [okD] at hx
  | .scr _, y, n, m, hx, hy => by cases n <;> simp [okD] at hx
  | .raw _, y, n, m, hx, hy => by cases n <;> simp [okD] at hx
theorem eqv_toPL : ∀ (xs ys : DS) (n m : Nat), (∀ x ∈ xs, okD n x = true) → (∀ y ∈ ys, okD m y = true) → PyData.eqvAll (toPL xs) (toPL ys) = eqDL xs ys
  | [], [], _, _, _, _ => by simp [toPL, PyData.eqvAll, eqDL]
  | [], _ :: _, _, _, _, _ => by simp [toPL, PyData.eqvAll, eqDL]
  | _ :: _, [], _, _, _, _ => by simp [toPL, PyData.eqvAll, eqDL]
  | x :: xs, y :: ys, n, m, hx, hy => by
    simp only [toPL, PyData.eqvAll, eqDL]
    rw [eqv_toP x y n m (hx x (by simp)) (hy y (by simp)), eqv_toPL xs ys n m (fun z hz => hx z (by simp [hz])) (fun z hz => hy z (by simp [hz]))]
end
mutual
theorem shaped_toP : ∀ (x : D) (n : Nat), okD n x = true → (toP x).canLay0 = true ∧ (toP x).depth ≤ n
  | .non, n, _ => by simp [toP, PyData.canLay0, PyData.depth]
  | .bl _, n, _ => by simp [toP, PyData.canLay0, PyData.depth]
  | .int _, n, _ => by simp [toP, PyData.canLay0, PyData.depth]
  | .str x, n, h => by
    have h' : PyData.strOk x = true := by cases n <;> simpa [okD] using h
    simp [toP, PyData.canLay0, PyData.depth, h']
  | .tup xs, 0, h => by simp [okD] at h
  | .lst xs, 0, h => by simp [okD] at h
  | .tup xs, n + 1, h => by
    simp only [okD, List.all_eq_true] at h
    have := shaped_toPL xs n h
    simp only [toP, PyData.canLay0, PyData.depth]
    exact ⟨this.1, by omega⟩
  | .lst xs, n + 1, h => by
    simp only [okD, List.all_eq_true] at h
    have := shaped_toPL xs n h
    simp only [toP, PyData.canLay0, PyData.depth]
    exact ⟨this.1, by omega⟩
  | .brook, n, h => by cases n <;> simp [okD] at h
  | .scr _, n, h => by cases n <;> simp [okD] at h
  | .raw _, n, h => by cases n <;> simp [okD] at h
theorem shaped_toPL : ∀ (xs : DS) (n : Nat), (∀ x ∈ xs, okD n x = true) → PyData.canLayAll0 (toPL xs) = true ∧ PyData.depthAll (toPL xs) ≤ n
  | [], n, _ => by simp [toPL, PyData.canLayAll0, PyData.depthAll]
  | x :: xs, n, h => by
    have h1 := shaped_toP x n (h x (by simp))
    have h2 := shaped_toPL xs n (fun z hz => h z (by simp [hz]))
    simp only [toPL, PyData.canLayAll0, PyData.depthAll]
    exact ⟨by rw [h1.1, h2.1]; rfl, by omega⟩
end
theorem shaped_of {x : D} {n : Nat} (hn : n ≤ 64) (h : okD n x = true) : SeqAt.shaped (toP x) = true := by
  have := shaped_toP x n h
  unfold SeqAt.shaped
  rw [this.1, Bool.true_and, decide_eq_true_eq]
  omega
section
variable {K : PySem.W.Frag} {β : Option Addr} {O : Addr → Prop} {H : Hp}
mutual
theorem dp_of : ∀ (d : D) (n : Nat) (v : V), okD n d = true → Rep K β O H v d → Dp K H v (toP d)
  | .non, _, _, _, .non => by simp only [toP]; exact .non
  | .bl _, _, _, _, .bl _ => by simp only [toP]; exact .bl _
  | .int _, _, _, _, .int _ => by simp only [toP]; exact .int _
  | .str _, _, _, _, .str _ _ => by simp only [toP]; exact .str _
  | .tup ds, 0, _, h, _ => by simp [okD] at h
  | .lst ds, 0, _, h, _ => by simp [okD] at h
  | .tup ds, n + 1, _, h, .tup z h1 r => by
    simp only [okD, List.all_eq_true] at h
    simp only [toP]
    exact .tup h1 (dp_ofL ds n _ h r)
  | .lst ds, n + 1, _, h, .lst z n' h1 r => by
    simp only [okD, List.all_eq_true] at h
    simp only [toP]
    exact .lst (.inl (.inl h1)) (dp_ofL ds n _ h r)
  | .brook, n, _, h, _ => by cases n <;> simp [okD] at h
  | .scr _, n, _, h, _ => by cases n <;> simp [okD] at h
  | .raw _, n, _, h, _ => by cases n <;> simp [okD] at h
theorem dp_ofL : ∀ (ds : DS) (n : Nat) (vs : List V), (∀ d ∈ ds, okD n d = true) → RepL K β O H vs ds → DpAll K H vs (toPL ds)
  | [], _, _, _, .nil => by simp only [toPL]; exact .nil
  | d :: ds, n, _, h, .cons h1 r => by
    simp only [toPL]
    exact .cons (dp_of d n _ (h d (by simp)) h1) (dp_ofL ds n _ (fun z hz => h z (by simp [hz])) r)
end
theorem dp_ofT {Hd : Addr → Prop} {d : D} {n : Nat} {v : V} (h : okD n d = true) (r : RepT K β O H Hd v d) : Dp K H v (toP d) := by
  cases d with
  | lst ds =>
    obtain ⟨a, vs, rfl, z, h1, r1⟩ := r.seq
    cases n with
    | zero => simp [okD] at h
    | succ n =>
      simp only [okD, List.all_eq_true] at h
      simp only [toP]
      exact .lst (.inl (.inl h1)) (dp_ofL ds n _ h r1)
  | _ => exact dp_of _ n _ h (r.rep fun ds e => nomatch e)
end
def okC (x : D) : Bool := okD 60 x
def eqP : P2 := fun x y k => okC x = true ∧ okC y = true ∧ k (.bl (eqD x y))
def neP : P2 := fun x y k => okC x = true ∧ okC y = true ∧ k (.bl (!eqD x y))
theorem eqP_mono : MonoP eqP := fun x y k k' f h => ⟨h.1, h.2.1, f _ h.2.2⟩
theorem neP_mono : MonoP neP := fun x y k k' f h => ⟨h.1, h.2.1, f _ h.2.2⟩
def ltP : P2
  | .int i, .int j, k => k (.bl (decide (i < j)))
  | .tup xs, .tup ys, k => ∃ ns ms, xs = ns.map D.int ∧ ys = ms.map D.int ∧ k (.bl (HT.lexLt ns ms))
  | _, _, _ => False
def leP : P2
  | .int i, .int j, k => k (.bl (decide (i ≤ j)))
  | _, _, _ => False
def gtP : P2
  | .int i, .int j, k => k (.bl (decide (j < i)))
  | _, _, _ => False
def geP : P2
  | .int i, .int j, k => k (.bl (decide (j ≤ i)))
  | _, _, _ => False
theorem ltP_mono : MonoP ltP := fun x y k k' f h => by
  cases x <;> cases y <;> first | exact False.elim h | exact f _ h | (obtain ⟨ns, ms, e1, e2, q⟩ := h; exact ⟨ns, ms, e1, e2, f _ q⟩)
theorem leP_mono : MonoP leP := fun x y k k' f h => by
  cases x <;> cases y <;> first | exact False.elim h | exact f _ h
theorem gtP_mono : MonoP gtP := fun x y k k' f h => by
  cases x <;> cases y <;> first | exact False.elim h | exact f _ h
theorem geP_mono : MonoP geP := fun x y k k' f h => by
  cases x <;> cases y <;> first | exact False.elim h | exact f _ h
/-- is None, is not None -/
def isNone : D → Option Bool
  | .non => some true
  | .scr _ => none
  | .raw _ => none
  | .brook => none
  | _ => some false
def isP : P2 := fun x y k => (y = .non ∧ ∃ b, isNone x = some b ∧ k (.bl b)) ∨ ∃ a b, x = .bl a ∧ y = .bl b ∧ k (.bl (a == b))
def isnotP : P2 := fun x y k => y = .non ∧ ∃ b, isNone x = some b ∧ k (.bl (!b))
theorem isP_mono : MonoP isP := fun x y k k' f h => h.elim (fun ⟨e, b, e2, h⟩ => .inl ⟨e, b, e2, f _ h⟩) fun ⟨a, b, e1, e2, h⟩ => .inr ⟨a, b, e1, e2, f _ h⟩
theorem isnotP_mono : MonoP isnotP := fun x y k k' f ⟨e, b, e2, h⟩ => ⟨e, b, e2, f _ h⟩
/-- in: flat things -/
def flatD : D → Bool
  | .non => true
  | .bl _ => true
  | .int _ => true
  | .str _ => true
  | _ => false
def inP (neg : Bool) : P2
  | x, .tup ys, k => flatD x = true ∧ ys.all flatD = true ∧ k (.bl (if neg then !ys.any (fun y => eqD y x) else ys.any (fun y => eqD y x)))
  | x, .lst ys, k => okC x = true ∧ okC (.lst ys) = true ∧ k (.bl (if neg then !ys.any (fun y => eqD y x) else ys.any (fun y => eqD y x)))
  | _, _, _ => False
theorem inP_mono {neg : Bool} : MonoP (inP neg) := fun x y k k' f h => by
  cases y <;> first | exact False.elim h | exact ⟨h.1, h.2.1, f _ h.2.2⟩
def ixP : P2
  | .tup xs, .int i, k => ∃ d, atI xs i = some d ∧ k d
  | .lst xs, .int i, k => ∃ d, atI xs i = some d ∧ k d
  | .str z, .int i, k => ∃ n, atI z.cps.toList i = some n ∧ k (.str ⟨#[n]⟩)
  | _, _, _ => False
theorem ixP_mono : MonoP ixP := fun x y k k' f h => by
  cases x <;> cases y <;> first | exact False.elim h | (obtain ⟨d, e, q⟩ := h; exact ⟨d, e, f _ q⟩)
section
variable {X : Cx} {c : Fx} {fr : Bool} {H : Hp}
theorem opd_eq (hK : c.K = X.K) (hu : X.A.units + 64 < cLine) : OpR X (compareOp .Eq) (rD c true eqP) := by
  intro pins s σ H x y v u Q I rx ry ⟨dx, dy, bk, ok, hx, hy, h1, h2, h⟩
  refine op_eqD hu pins s σ H x y v u Q I rx ry ⟨toP dx, toP dy, hK ▸ dp_ofT h1 hx, hK ▸ dp_ofT h2 hy, shaped_of (by decide) h1, shaped_of (by decide) h2, ?_⟩
  rw [eqv_toP dx dy 60 60 h1 h2]
  exact got_bl h
theorem opd_ne (hK : c.K = X.K) (hu : X.A.units + 64 < cLine) : OpR X (compareOp .NotEq) (rD c true neP) := by
  intro pins s σ H x y v u Q I rx ry ⟨dx, dy, bk, ok, hx, hy, h1, h2, h⟩
  refine op_neD hu pins s σ H x y v u Q I rx ry ⟨toP dx, toP dy, hK ▸ dp_ofT h1 hx, hK ▸ dp_ofT h2 hy, shaped_of (by decide) h1, shaped_of (by decide) h2, ?_⟩
  rw [eqv_toP dx dy 60 60 h1 h2]
  exact got_bl h
theorem opd_lt (hK : c.K = X.K) (hu : X.A.units < cLine) : OpR X (compareOp .Lt) (rD c true ltP) := by
  intro pins s σ H x y v u Q I rx ry ⟨dx, dy, bk, ok, hx, hy, h⟩
  cases dx <;> cases dy <;> first | exact False.elim h | skip
  · have e1 := repT_int hx; have e2 := repT_int hy
    subst e1 e2
    exact op_lt pins s σ H _ _ v u Q I rx ry ⟨_, _, rfl, rfl, got_bl h⟩
  · obtain ⟨ns, ms, rfl, rfl, h⟩ := h
    obtain ⟨a, vs, rfl, z1, h1, r1⟩ := RepT.tup hx
    obtain ⟨b, ws, rfl, z2, h2, r2⟩ := RepT.tup hy
    rw [r1.ints] at h1
    rw [r2.ints] at h2
    exact op_ltT hu pins s σ H _ _ v u Q I rx ry ⟨a, b, ns, ms, rfl, rfl, hK ▸ h1, hK ▸ h2, got_bl h⟩
theorem opd_le : OpR X (compareOp .LtE) (rD c true leP) := by
  intro pins s σ H x y v u Q I rx ry ⟨dx, dy, bk, ok, hx, hy, h⟩
  cases dx <;> cases dy <;> first | exact False.elim h | skip
  have e1 := repT_int hx; have e2 := repT_int hy
  subst e1 e2
  exact op_le pins s σ H _ _ v u Q I rx ry ⟨_, _, rfl, rfl, got_bl h⟩
theorem opd_gt : OpR X (compareOp .Gt) (rD c true gtP) := by
  intro pins s σ H x y v u Q I rx ry ⟨dx, dy, bk, ok, hx, hy, h⟩
  cases dx <;> cases dy <;> first | exact False.elim h | skip
  have e1 := repT_int hx; have e2 := repT_int hy
  subst e1 e2
  exact op_gt pins s σ H _ _ v u Q I rx ry ⟨_, _, rfl, rfl, got_bl h⟩
theorem opd_ge : OpR X (compareOp .GtE) (rD c true geP) := by
  intro pins s σ H x y v u Q I rx ry ⟨dx, dy, bk, ok, hx, hy, h⟩
  cases dx <;> cases dy <;> first | exact False.elim h | skip
  have e1 := repT_int hx; have e2 := repT_int hy
  subst e1 e2
  exact op_ge pins s σ H _ _ v u Q I rx ry ⟨_, _, rfl, rfl, got_bl h⟩
theorem isNone_v {v : V} {d : D} {b : Bool} (h : c.RepT H v d) (e : isNone d = some b) : decide (v = .non) = b := by
  cases d with
  | scr _ => cases e
  | raw _ => cases e
  | brook => cases e
  | lst ds =>
    cases e
    obtain ⟨a, vs, rfl, _⟩ := RepT.seq h
    rfl
  | _ =>
    cases e
    have h' := h.rep (fun ds e => nomatch e)
    cases h' <;> rfl
theorem opd_is : OpR X (compareOp .Is) (rD c true isP) := by
  intro pins s σ H x y v u Q I rx ry ⟨dx, dy, bk, ok, hx, hy, hh⟩
  rcases hh with ⟨e, b, eb, h⟩ | ⟨a, b, ea, eb, h⟩
  case inr =>
    subst ea eb
    have e1 := repT_bl hx; have e2 := repT_bl hy
    subst e1 e2
    cases rx; cases ry
    show wpAny _ _ ((isSame (.bool a) (.bool b)) >>= fun z => pure (Value.bool z)) _ _ s
    exact wpAny_bind (wpAny_isSame_plain rfl (wpAny_pure (fin_bl I (got_bl h) (by cases a <;> cases b <;> rfl))))
  subst e
  have e2 := repT_non hy
  subst e2
  refine op_isN pins s σ H _ _ v u Q I rx ry ⟨rfl, ?_⟩
  rw [isNone_v hx eb]
  exact got_bl h
theorem opd_isnot : OpR X (compareOp .IsNot) (rD c true isnotP) := by
  intro pins s σ H x y v u Q I rx ry ⟨dx, dy, bk, ok, hx, hy, e, b, eb, h⟩
  subst e
  have e2 := repT_non hy
  subst e2
  refine op_notN pins s σ H _ _ v u Q I rx ry ⟨rfl, ?_⟩
  rw [isNone_v hx eb]
  exact got_bl h
theorem flatV_of {v : V} {d : D} (h : c.Rep H v d) (f : flatD d = true) : flatV v = true := by
  cases h <;> first | rfl | cases f
theorem flatV_all : ∀ {vs : List V} {ds : DS}, c.RepL H vs ds → ds.all flatD = true → vs.all flatV = true
  | _, _, .nil, _ => rfl
  | _, _, .cons h r, f => by
    rw [List.all_cons, Bool.and_eq_true] at f ⊢
    exact ⟨flatV_of h f.1, flatV_all r f.2⟩
theorem eqV_of {v w : V} {d e : D} (h : c.Rep H v d) (h' : c.Rep H w e) (f : flatD d = true) (f' : flatD e = true) : eqV v w = eqD d e := by
  cases h <;> cases h' <;> first | rfl | exact Bool.noConfusion f | exact Bool.noConfusion f' | simp [eqV, eqD]
theorem inV_of {v : V} {d : D} (h : c.Rep H v d) (f : flatD d = true) : ∀ {vs : List V} {ds : DS}, c.RepL H vs ds → ds.all flatD = true → inV v vs = ds.any (fun y => eqD y d)
  | _, _, .nil, _ => rfl
  | _, _, .cons h1 r, g => by
    rw [List.all_cons, Bool.and_eq_true] at g
    unfold inV
    rw [List.any_cons, List.any_cons, eqV_of h1 h g.1 f]
    have := inV_of h f r g.2
    unfold inV at this
    rw [this]
theorem any_toP {d : D} (hd : okD 60 d = true) : ∀ {ds : DS} (n : Nat), (∀ x ∈ ds, okD n x = true) → (toPL ds).any (fun z => PyData.eqv z (toP d)) = ds.any (fun y => eqD y d)
  | [], _, _ => by simp [toPL]
  | x :: xs, n, h => by
    simp only [toPL, List.any_cons]
    rw [eqv_toP x d n 60 (h x (by simp)) hd, any_toP hd n (fun z hz => h z (by simp [hz]))]
theorem opd_in (hK : c.K = X.K) (hu : X.A.units + 65 < cLine) : OpR X (compareOp .In) (rD c true (inP false)) := by
  intro pins s σ H x y v u Q I rx ry ⟨dx, dy, bk, ok, hx, hy, h⟩
  cases dy <;> first | exact False.elim h | skip
  · obtain ⟨f, fs, h⟩ := h
    obtain ⟨b, ws, rfl, z2, h2, r2⟩ := RepT.tup hy
    have hx' : c.Rep H x dx := RepT.rep hx (fun ds e => by subst e; cases f)
    refine op_in_seq pins s σ H _ _ v u Q I rx ry ⟨b, ws, rfl, .inr (hK ▸ h2), flatV_of hx' f, flatV_all r2 fs, ?_⟩
    rw [inV_of hx' f r2 fs]
    exact got_bl h
  · rename_i ys
    obtain ⟨f, fs, h⟩ := h
    refine op_inD hu pins s σ H _ _ v u Q I rx ry ⟨toP dx, toPL ys, hK ▸ dp_ofT f hx, hK ▸ (by have := dp_ofT fs hy; rw [toP] at this; exact this), shaped_of (by decide) f, (by have := shaped_of (n := 60) (by decide) fs; rw [toP] at this; exact this), ?_⟩
    rw [any_toP f 59 (by unfold okC at fs; simp only [okD, List.all_eq_true] at fs; exact fs)]
    exact got_bl h
theorem opd_notin (hK : c.K = X.K) (hu : X.A.units + 65 < cLine) : OpR X (compareOp .NotIn) (rD c true (inP true)) := by
  intro pins s σ H x y v u Q I rx ry ⟨dx, dy, bk, ok, hx, hy, h⟩
  cases dy <;> first | exact False.elim h | skip
  · obtain ⟨f, fs, h⟩ := h
    obtain ⟨b, ws, rfl, z2, h2, r2⟩ := RepT.tup hy
    have hx' : c.Rep H x dx := RepT.rep hx (fun ds e => by subst e; cases f)
    refine op_notIn_seq pins s σ H _ _ v u Q I rx ry ⟨b, ws, rfl, .inr (hK ▸ h2), flatV_of hx' f, flatV_all r2 fs, ?_⟩
    rw [inV_of hx' f r2 fs]
    exact got_bl h
  · rename_i ys
    obtain ⟨f, fs, h⟩ := h
    refine op_notInD hu pins s σ H _ _ v u Q I rx ry ⟨toP dx, toPL ys, hK ▸ dp_ofT f hx, hK ▸ (by have := dp_ofT fs hy; rw [toP] at this; exact this), shaped_of (by decide) f, (by have := shaped_of (n := 60) (by decide) fs; rw [toP] at this; exact this), ?_⟩
    rw [any_toP f 59 (by unfold okC at fs; simp only [okD, List.all_eq_true] at fs; exact fs)]
    exact got_bl h
theorem atI_rep {vs : List V} {ds : DS} {i : Int} {d : D} (r : c.RepL H vs ds) (e : atI ds i = some d) : ∃ v, atI vs i = some v ∧ c.Rep H v d := by
  unfold atI at e ⊢
  rw [r.length]
  cases q : ixN ds.length i with
  | none => rw [q] at e; cases e
  | some j =>
    rw [q] at e
    exact r.get e
theorem ixd (hK : c.K = X.K) : IxR X (rD c false ixP) := by
  have key := (ix_list (X := X).or ix_tup).or ix_str
  intro value slice pins s σ H x y v u Q I rx ry ⟨dx, dy, bk, ok, hx, hy, h⟩ hs
  refine key value slice pins s σ H x y v u Q I rx ry ?_ hs
  cases dx <;> cases dy <;> first | exact False.elim h | skip
  · obtain ⟨n, e, h⟩ := h
    obtain ⟨e1, z⟩ := repT_str hx
    have e2 := repT_int hy
    subst e1 e2
    exact .inr ⟨_, _, n, rfl, rfl, z, e, got_str (by show 1 ≤ sizeLine; decide) h⟩
  · obtain ⟨d, e, h⟩ := h
    obtain ⟨a, vs, rfl, z1, h1, r1⟩ := RepT.tup hx
    have e2 := repT_int hy
    subst e2
    obtain ⟨w, q1, q2⟩ := atI_rep r1 e
    exact .inl (.inr ⟨a, vs, _, w, rfl, rfl, hK ▸ h1, q1, got_at (fr := false) q2 (fun z => Bool.noConfusion z) h⟩)
  · obtain ⟨d, e, h⟩ := h
    obtain ⟨a, vs, rfl, z1, h1, r1⟩ := RepT.seq hx
    have e2 := repT_int hy
    subst e2
    obtain ⟨w, q1, q2⟩ := atI_rep r1 e
    exact .inl (.inl ⟨a, vs, _, w, rfl, rfl, .inl (.inl h1), q1, got_at (fr := false) q2 (fun z => Bool.noConfusion z) h⟩)
theorem plainIx (b : Expr) (h : ∀ l u t p, b ≠ .Slice l u t p) : PlainIx b := by
  cases b <;> first | exact fun _ _ => rfl | exact absurd rfl (h _ _ _ _)
end
end QL
namespace QL
open PySem PySem.Spec PyProof.Rows L2
/-! ### built-ins by values -/
def lenP : PL := fun ds k => ∃ x, ds = [x] ∧ ∃ n : Nat, ((∃ xs, x = .scr xs ∧ n = xs.length) ∨ (∃ xs, x = .tup xs ∧ n = xs.length) ∨ (∃ xs, x = .lst xs ∧ n = xs.length) ∨ ∃ z, x = .str z ∧ n = z.length) ∧ k (.int n)
/-- the built-in class of a thing -/
def tyD : D → String
  | .non => "NoneType"
  | .bl _ => "bool"
  | .int _ => "int"
  | .str _ => "str"
  | .tup _ => "tuple"
  | .lst _ => "list"
  | .brook => "list"
  | .scr _ => "list"
  | .raw _ => ""
def isiS (t T : String) : Bool := t == T || (t == "bool" && T == "int")
def isiD (d : D) (T : String) : Bool := isiS (tyD d) T
def isTy (T : String) : Bool := T == "int" || T == "bool" || T == "str" || T == "tuple" || T == "list"
/-- a thing of one's own kind -/
def plainD : D → Bool
  | .raw _ => false
  | .brook => false
  | .scr _ => false
  | _ => true
def isiP : PL := fun ds k => ∃ x T, ds = [x, .raw (.ty T)] ∧ isTy T = true ∧ plainD x = true ∧ k (.bl (isiD x T))
def max2P : PL := fun ds k => ∃ i j, ds = [.int i, .int j] ∧ k (.int (max i j))
def min2P : PL := fun ds k => ∃ i j, ds = [.int i, .int j] ∧ k (.int (min i j))
def maxLP : PL := fun ds k => ∃ (ns : List Int) (m : Int), (ds = [.lst (ns.map D.int)]) ∧ m ∈ ns ∧ (∀ y ∈ ns, y ≤ m) ∧ k (.int m)
def minLP : PL := fun ds k => ∃ (ns : List Int) (m : Int), (ds = [.lst (ns.map D.int)]) ∧ m ∈ ns ∧ (∀ y ∈ ns, m ≤ y) ∧ k (.int m)
def sumP : PL := fun ds k => ∃ ns : List Int, (ds = [.lst (ns.map D.int)] ∨ ds = [.tup (ns.map D.int)]) ∧ k (.int ns.sum)
def absP : PL := fun ds k => ∃ i : Int, ds = [.int i] ∧ k (.int (if i < 0 then -i else i))
def intP : PL := fun ds k => (∃ i : Int, ds = [.int i] ∧ k (.int i)) ∨ ∃ b : Bool, ds = [.bl b] ∧ k (.int (if b then 1 else 0))
def tupleP : PL := fun ds k => ∃ xs, (ds = [.lst xs] ∨ ds = [.tup xs]) ∧ k (.tup xs)
def listP : PL := fun ds k => ∃ xs, (ds = [.lst xs] ∨ ds = [.tup xs]) ∧ k (.lst xs)
def allP : PL := fun ds k => ∃ bs : List Bool, ds = [.lst (bs.map D.bl)] ∧ k (.bl (bs.all id))
def anyP : PL := fun ds k => ∃ bs : List Bool, ds = [.lst (bs.map D.bl)] ∧ k (.bl (bs.any id))
def divmodP : PL := fun ds k => ∃ i j : Int, ds = [.int i, .int j] ∧ CDivP i j ∧ k (.tup [.int (i / j), .int (i % j)])
def reprLeaf : D → Option Str
  | .non => some "None"
  | .bl b => some (if b then "True" else "False")
  | .int i => if i.natAbs.log2 < 1920 then some (toString i) else none
  | _ => none
def reprP : PL := fun ds k => ∃ d s, ds = [d] ∧ reprLeaf d = some s ∧ k (.str s)
/-- the order of sorted -/
def leD : D → D → Bool := PySem.W.dataLe false toP
def sortD (xs : DS) : DS := xs.mergeSort leD
def SortOk (xs : DS) : Prop := PySem.W.AllAlike (xs.map toP) ∧ PySem.W.Sortable (xs.map toP) ∧ ∀ x ∈ xs, okC x = true
def sortedP : PL := fun ds k => ∃ xs, ds = [.lst xs] ∧ SortOk xs ∧ k (.lst (sortD xs))
theorem lenP_mono : MonoPL lenP := fun _ _ _ f ⟨x, e, n, h, q⟩ => ⟨x, e, n, h, f _ q⟩
theorem isiP_mono : MonoPL isiP := fun _ _ _ f ⟨x, T, e, h1, h2, q⟩ => ⟨x, T, e, h1, h2, f _ q⟩
theorem max2P_mono : MonoPL max2P := fun _ _ _ f ⟨i, j, e, q⟩ => ⟨i, j, e, f _ q⟩
theorem min2P_mono : MonoPL min2P := fun _ _ _ f ⟨i, j, e, q⟩ => ⟨i, j, e, f _ q⟩
theorem maxLP_mono : MonoPL maxLP := fun _ _ _ f ⟨i, j, e, h1, h2, q⟩ => ⟨i, j, e, h1, h2, f _ q⟩
theorem minLP_mono : MonoPL minLP := fun _ _ _ f ⟨i, j, e, h1, h2, q⟩ => ⟨i, j, e, h1, h2, f _ q⟩
theorem sumP_mono : MonoPL sumP := fun _ _ _ f ⟨i, e, q⟩ => ⟨i, e, f _ q⟩
theorem absP_mono : MonoPL absP := fun _ _ _ f ⟨i, e, q⟩ => ⟨i, e, f _ q⟩
theorem intP_mono : MonoPL intP := fun _ _ _ f h => h.elim (fun ⟨i, e, q⟩ => .inl ⟨i, e, f _ q⟩) fun ⟨i, e, q⟩ => .inr ⟨i, e, f _ q⟩
theorem tupleP_mono : MonoPL tupleP := fun _ _ _ f ⟨i, e, q⟩ => ⟨i, e, f _ q⟩
theorem listP_mono : MonoPL listP := fun _ _ _ f ⟨i, e, q⟩ => ⟨i, e, f _ q⟩
theorem allP_mono : MonoPL allP := fun _ _ _ f ⟨i, e, q⟩ => ⟨i, e, f _ q⟩
theorem anyP_mono : MonoPL anyP := fun _ _ _ f ⟨i, e, q⟩ => ⟨i, e, f _ q⟩
theorem divmodP_mono : MonoPL divmodP := fun _ _ _ f ⟨i, j, e, h, q⟩ => ⟨i, j, e, h, f _ q⟩
theorem reprP_mono : MonoPL reprP := fun _ _ _ f ⟨i, j, e, h, q⟩ => ⟨i, j, e, h, f _ q⟩
theorem sortedP_mono : MonoPL sortedP := fun _ _ _ f ⟨i, e, h, q⟩ => ⟨i, e, h, f _ q⟩
section
variable {X : Cx} {c : Fx} {fr : Bool} {H : Hp}
theorem rtl1 {vs : List V} {d : D} (h : RepTL c H vs [d]) : ∃ v, vs = [v] ∧ c.RepT H v d := by
  cases h with
  | cons h r => cases r; exact ⟨_, rfl, h⟩
theorem rtl2 {vs : List V} {d e : D} (h : RepTL c H vs [d, e]) : ∃ v w, vs = [v, w] ∧ c.RepT H v d ∧ c.RepT H w e := by
  cases h with
  | cons h r =>
    obtain ⟨w, rfl, h2⟩ := rtl1 r
    exact ⟨_, _, rfl, h, h2⟩
theorem bd_len (hK : c.K = X.K) : CallR X (.builtin "len") (rDL c true lenP) := by
  intro pins s σ H xs us Q I r ⟨ds, bk, ok, hx, x, e, n, h, q⟩
  subst e
  obtain ⟨v, rfl, hv⟩ := rtl1 hx
  rcases h with ⟨ys, rfl, rfl⟩ | ⟨ys, rfl, rfl⟩ | ⟨ys, rfl, rfl⟩ | ⟨z, rfl, rfl⟩
  · have hv := hv.rep (fun ds z => nomatch z)
    cases hv with
    | scr h =>
      refine call_len_seq pins s σ H _ us Q I r ⟨_, _, rfl, .inl (hK ▸ h.sq), ?_⟩
      rw [List.length_map]
      exact got_int q
  · obtain ⟨a, vs, rfl, z, h, r1⟩ := RepT.tup hv
    refine call_len_seq pins s σ H _ us Q I r ⟨a, vs, rfl, .inr (hK ▸ h), ?_⟩
    rw [r1.length]
    exact got_int q
  · obtain ⟨a, vs, rfl, z, h, r1⟩ := RepT.seq hv
    refine call_len_seq pins s σ H _ us Q I r ⟨a, vs, rfl, .inl (.inl (.inl h)), ?_⟩
    rw [r1.length]
    exact got_int q
  · obtain ⟨rfl, hz⟩ := repT_str hv
    exact call_len_str pins s σ H _ us Q I r ⟨z, rfl, hz, got_int q⟩
theorem kit_tab {K : PySem.W.Frag} {d : D} {T : String} (h : isTy T = true) (h2 : plainD d = true) : PySem.W.kitOne K (.type (tyD d)) (.type T) = some (isiD d T) := by
  have e : T = "int" ∨ T = "bool" ∨ T = "str" ∨ T = "tuple" ∨ T = "list" := by
    unfold isTy at h
    simp only [Bool.or_eq_true, beq_iff_eq] at h
    rcases h with (((h | h) | h) | h) | h <;> simp [h]
  have key : ∀ t ∈ ["NoneType", "bool", "int", "str", "tuple", "list"], ∀ T ∈ ["int", "bool", "str", "tuple", "list"], kitB t T = some (isiS t T) := by decide +kernel
  refine kit_ty (key _ ?_ _ ?_)
  · cases d <;> first | exact absurd h2 (by decide) | (exfalso; revert h2; simp [plainD]; done) | simp [tyD]
  · simpa using e
theorem tyx_of {H : Hp} {v : V} {d : D} (hK : c.K = X.K) (h : c.RepT H v d) (h2 : plainD d = true) : TyX X.K H v (.type (tyD d)) := by
  cases d with
  | raw v => cases h2
  | brook => cases h2
  | scr v => cases h2
  | lst ds =>
    obtain ⟨a, vs, rfl, z, h, r1⟩ := RepT.seq h
    exact .base (.lst h)
  | tup ds =>
    obtain ⟨a, vs, rfl, z, h, r1⟩ := RepT.tup h
    rcases h with (h | ⟨o, h⟩) | ⟨o, its, n, h, hc, _⟩
    · exact .base (.tup h)
    · exact .fTuple h
    · exact .kTuple (hK ▸ h) hc
  | non => have e := repT_non h; subst e; exact .base .non
  | bl b => have e := repT_bl h; subst e; exact .base (.bl _)
  | int i => have e := repT_int h; subst e; exact .base (.int _)
  | str z => have e := (repT_str h).1; subst e; exact .base (.str _)
theorem bd_isi (hK : c.K = X.K) : CallR X (.builtin "isinstance") (rDL c true isiP) := by
  intro pins s σ H xs us Q I r ⟨ds, bk, ok, hx, x, T, e, h1, h2, q⟩
  subst e
  obtain ⟨v, w, rfl, hv, hw⟩ := rtl2 hx
  have hw := hw.rep (fun ds z => nomatch z)
  cases hw
  exact call_isi pins s σ H _ us Q I r ⟨v, _, _, _, _, rfl, .ty T, tyx_of hK hv h2, kit_tab h1 h2, got_bl q⟩
theorem bd_max2 (hc : X.calm = true) : CallR X (.builtin "max") (rDL c true max2P) := by
  intro pins s σ H xs us Q I r ⟨ds, bk, ok, hx, i, j, e, q⟩
  subst e
  obtain ⟨v, w, rfl, hv, hw⟩ := rtl2 hx
  have e1 := repT_int hv; have e2 := repT_int hw
  subst e1 e2
  refine call_max2 hc pins s σ H _ us Q I r ⟨i, j, rfl, ?_⟩
  have : (if j > i then j else i) = max i j := by omega
  rw [this]
  exact got_int q
theorem bd_min2 (hc : X.calm = true) : CallR X (.builtin "min") (rDL c true min2P) := by
  intro pins s σ H xs us Q I r ⟨ds, bk, ok, hx, i, j, e, q⟩
  subst e
  obtain ⟨v, w, rfl, hv, hw⟩ := rtl2 hx
  have e1 := repT_int hv; have e2 := repT_int hw
  subst e1 e2
  refine call_min2 hc pins s σ H _ us Q I r ⟨i, j, rfl, ?_⟩
  have : (if j < i then j else i) = min i j := by omega
  rw [this]
  exact got_int q
theorem bd_maxL (hc : X.calm = true) : CallR X (.builtin "max") (rDL c true maxLP) := by
  intro pins s σ H xs us Q I r ⟨ds, bk, ok, hx, ns, m, e, h1, h2, q⟩
  subst e
  obtain ⟨v, rfl, hv⟩ := rtl1 hx
  obtain ⟨a, vs, rfl, z, h, r1⟩ := RepT.seq hv
  rw [r1.ints] at h
  refine cr_max hc pins s σ H _ us Q I r ⟨a, ns, rfl, .inl (.inl h), List.length_pos_of_mem h1, fun m' g1 g2 => ?_⟩
  have : m' = m := Int.le_antisymm (h2 m' g1) (g2 m h1)
  rw [this]
  exact got_int q
theorem bd_minL (hc : X.calm = true) : CallR X (.builtin "min") (rDL c true minLP) := by
  intro pins s σ H xs us Q I r ⟨ds, bk, ok, hx, ns, m, e, h1, h2, q⟩
  subst e
  obtain ⟨v, rfl, hv⟩ := rtl1 hx
  obtain ⟨a, vs, rfl, z, h, r1⟩ := RepT.seq hv
  rw [r1.ints] at h
  refine cr_min hc pins s σ H _ us Q I r ⟨a, ns, rfl, .inl (.inl h), List.length_pos_of_mem h1, fun m' g1 g2 => ?_⟩
  have : m' = m := Int.le_antisymm (g2 m h1) (h2 m' g1)
  rw [this]
  exact got_int q
theorem sumT_raw {prog : Program} {w : World} {A : Around} {E : Value → Shared → Prop} {s : Shared} {l : Addr} {its : List Value} {ns : List Int} {Q : Value → Shared → Prop} (hh : A.handled = none) (hl : s.heap.IsTuple l its.toArray) (hi : IntsAre its ns)
    (h : ∀ h' tk t', (∀ b o, s.heap.get? b = some o → h'.get? b = some o) → Q (.int ns.sum t') { s with heap := h', toks := tk }) : wpAny (model prog w) A (call (.builtin "sum") [.ref l]) Q E s := by
  obtain ⟨xs, hx⟩ := hi.allInts.items
  have hn : numsOf its.toArray.toList = ns := by rw [show its.toArray.toList = its from rfl, hi.numsOf]
  rw [hx] at hl hn
  rw [nums_intItems] at hn
  refine PySem.W.ktm_sumG hh hl fun h' tk t' hk => ?_
  have g := h h' tk t' hk
  rw [preSum_eq, List.take_of_length_le (by simp), hn]
  exact g
theorem bd_sum (hK : c.K = X.K) (hc : X.calm = true) : CallR X (.builtin "sum") (rDL c true sumP) := by
  intro pins s σ H xs us Q I r ⟨ds, bk, ok, hx, ns, e, q⟩
  rcases e with e | e
  · subst e
    obtain ⟨v, rfl, hv⟩ := rtl1 hx
    obtain ⟨a, vs, rfl, z, h, r1⟩ := RepT.seq hv
    rw [r1.ints] at h
    exact cr_sum hc pins s σ H _ us Q I r ⟨a, ns, rfl, .inl (.inl h), got_int q⟩
  · subst e
    obtain ⟨v, rfl, hv⟩ := rtl1 hx
    obtain ⟨a, vs, rfl, z, h, r1⟩ := RepT.tup hv
    rw [r1.ints] at h
    obtain ⟨its, rv, hl, _⟩ := I.tuple (hK ▸ h : SqT X.K H a (ns.map V.int))
    rw [Vals.ref1 r]
    exact sumT_raw (I.ok.hd hc) (show s.heap.IsTuple a its.toArray from hl) rv.ints fun h' tk t' hk => ⟨.int _, H, I.kept hk, ⟨_, rfl⟩, got_int q⟩
theorem bd_abs : CallR X (.builtin "abs") (rDL c true absP) := by
  intro pins s σ H xs us Q I r ⟨ds, bk, ok, hx, i, e, q⟩
  subst e
  obtain ⟨v, rfl, hv⟩ := rtl1 hx
  have e1 := repT_int hv
  subst e1
  exact call_abs pins s σ H _ us Q I r ⟨i, rfl, got_int q⟩
theorem bd_int : CallR X (.type "int") (rDL c true intP) := by
  intro pins s σ H xs us Q I r ⟨ds, bk, ok, hx, h⟩
  rcases h with ⟨i, e, q⟩ | ⟨i, e, q⟩
  · subst e
    obtain ⟨v, rfl, hv⟩ := rtl1 hx
    have e1 := repT_int hv
    subst e1
    exact call_int1 pins s σ H _ us Q I r (.inl ⟨i, rfl, got_int q⟩)
  · subst e
    obtain ⟨v, rfl, hv⟩ := rtl1 hx
    have e1 := repT_bl hv
    subst e1
    exact call_int1 pins s σ H _ us Q I r (.inr ⟨i, rfl, got_int q⟩)
theorem bd_tuple (hK : c.K = X.K) : CallR X (.type "tuple") (rDL c true tupleP) := by
  intro pins s σ H xs us Q I r ⟨ds, bk, ok, hx, ys, e, q⟩
  rcases e with e | e
  · subst e
    obtain ⟨v, rfl, hv⟩ := rtl1 hx
    obtain ⟨a, vs, rfl, z, h, r1⟩ := RepT.seq hv
    exact call_tuple_of pins s σ H _ us Q I r ⟨a, vs, rfl, .inl ⟨.inl (.inl h), fun l hl => got_tup bk z hl r1 q⟩⟩
  · subst e
    obtain ⟨v, rfl, hv⟩ := rtl1 hx
    obtain ⟨a, vs, rfl, z, h, r1⟩ := RepT.tup hv
    exact call_tuple_of pins s σ H _ us Q I r ⟨a, vs, rfl, .inr ⟨hK ▸ h, got_at (.tup z h r1) (fun _ ds e => nomatch e) q⟩⟩
theorem bd_list (hK : c.K = X.K) : CallR X (.type "list") (rDL c true listP) := by
  intro pins s σ H xs us Q I r ⟨ds, bk, ok, hx, ys, e, q⟩
  rcases e with e | e
  · subst e
    obtain ⟨v, rfl, hv⟩ := rtl1 hx
    obtain ⟨a, vs, rfl, z, h, r1⟩ := RepT.seq hv
    exact call_list_of pins s σ H _ us Q I r ⟨a, vs, rfl, .inl (.inl (.inl h)), fun l hl => got_lst bk ok z hl r1 q⟩
  · subst e
    obtain ⟨v, rfl, hv⟩ := rtl1 hx
    obtain ⟨a, vs, rfl, z, h, r1⟩ := RepT.tup hv
    exact call_list_of pins s σ H _ us Q I r ⟨a, vs, rfl, .inr (hK ▸ h), fun l hl => got_lst bk ok z hl r1 q⟩
theorem bd_all (hc : X.calm = true) : CallR X (.builtin "all") (rDL c true allP) := by
  intro pins s σ H xs us Q I r ⟨ds, bk, ok, hx, bs, e, q⟩
  subst e
  obtain ⟨v, rfl, hv⟩ := rtl1 hx
  obtain ⟨a, vs, rfl, z, h, r1⟩ := RepT.seq hv
  rw [r1.bls] at h
  exact cr_all hc pins s σ H _ us Q I r ⟨a, bs, rfl, .inl (.inl h), got_bl q⟩
theorem bd_any (hc : X.calm = true) : CallR X (.builtin "any") (rDL c true anyP) := by
  intro pins s σ H xs us Q I r ⟨ds, bk, ok, hx, bs, e, q⟩
  subst e
  obtain ⟨v, rfl, hv⟩ := rtl1 hx
  obtain ⟨a, vs, rfl, z, h, r1⟩ := RepT.seq hv
  rw [r1.bls] at h
  exact cr_any hc pins s σ H _ us Q I r ⟨a, bs, rfl, .inl (.inl h), got_bl q⟩
theorem bd_divmod : CallR X (.builtin "divmod") (rDL c true divmodP) := by
  intro pins s σ H xs us Q I r ⟨ds, bk, ok, hx, i, j, e, cd, q⟩
  subst e
  obtain ⟨v, w, rfl, hv, hw⟩ := rtl2 hx
  have e1 := repT_int hv; have e2 := repT_int hw
  subst e1 e2
  exact call_divmodW pins s σ H _ us Q I r ⟨i, j, rfl, cd, fun p hp => got_tup bk (by show 2 ≤ sizeLine; decide) hp (.cons (.int _) (.cons (.int _) .nil)) q⟩
theorem bd_repr : CallR X (.builtin "repr") (rDL c true reprP) := by
  intro pins s σ H xs us Q I r ⟨ds, bk, ok, hx, d, z, e, h, q⟩
  subst e
  obtain ⟨v, rfl, hv⟩ := rtl1 hx
  obtain ⟨u, rfl, ru⟩ := vals1 r
  have sm : ∀ (y : Str), y.length ≤ 10 → y.length ≤ sizeLine := fun y hy => Nat.le_trans hy (by decide)
  cases d with
  | non =>
    have e1 := repT_non hv
    subst e1
    cases h
    cases ru
    exact PySem.P.repr_of_none ⟨.str _, H, I.tok _, ⟨_, rfl⟩, got_str (sm _ (by decide)) q⟩
  | bl b =>
    have e1 := repT_bl hv
    subst e1
    cases h
    cases ru
    exact PySem.P.repr_of_bool ⟨.str _, H, I.tok _, ⟨_, rfl⟩, got_str (sm _ (by cases b <;> decide)) q⟩
  | int i =>
    have e1 := repT_int hv
    subst e1
    simp only [reprLeaf] at h
    split at h
    · rename_i hz
      cases h
      exact SkE.call_repr_int pins s σ H _ _ Q I r ⟨i, rfl, hz, got_str (Nat.le_of_lt_succ (Nat.lt_succ_of_le (int_text_fits hz))) q⟩
    · cases h
  | _ => cases h
theorem reads_of {H : Hp} {s : Shared} {σ : L2.St} {pins : List (Addr × Obj)} (hK : c.K = X.K) (I : Inv X pins σ H s) : ∀ {vs : List V} {its : List Value} {ds : DS}, Vals vs its → c.RepL H vs ds → (∀ d ∈ ds, okC d = true) →
    PySem.W.EachIs (fun v b => ∃ as, Reads s.heap v (toP b) as) its ds
  | _, _, _, .nil, .nil, _ => .nil
  | _, _, _, .cons r rr, .cons h hh, k => by
    obtain ⟨as, q⟩ := Dp.reads I _ _ _ (hK ▸ dp_of _ 60 _ (k _ (by simp)) h) r
    exact .cons ⟨as, q⟩ (reads_of hK I rr hh fun d hd => k d (by simp [hd]))
theorem each_rel {H : Hp} : ∀ {vs : List V} {its : List Value} {ds : DS}, Vals vs its → c.RepL H vs ds → PySem.W.EachIs (fun u b => ∃ v, RelV v u ∧ c.Rep H v b) its ds
  | _, _, _, .nil, .nil => .nil
  | _, _, _, .cons r rr, .cons h hh => .cons ⟨_, r, h⟩ (each_rel rr hh)
theorem rel_each {H : Hp} : ∀ {its : List Value} {ds : DS}, PySem.W.EachIs (fun u b => ∃ v, RelV v u ∧ c.Rep H v b) its ds → ∃ vs, Vals vs its ∧ c.RepL H vs ds
  | _, _, .nil => ⟨[], .nil, .nil⟩
  | _, _, .cons ⟨v, r, h⟩ t => by
    obtain ⟨vs, q1, q2⟩ := rel_each t
    exact ⟨v :: vs, .cons r q1, .cons h q2⟩
theorem bd_sorted (hK : c.K = X.K) (hu : X.A.units + 64 < cLine) : CallR X (.builtin "sorted") (rDL c true sortedP) := by
  intro pins s σ H xs us Q I r ⟨ds, bk, ok, hx, ys, e, ⟨k1, k2, k3⟩, q⟩
  subst e
  obtain ⟨v, rfl, hv⟩ := rtl1 hx
  obtain ⟨a, vs, rfl, z, h, r1⟩ := RepT.seq hv
  obtain ⟨its, n, rv, eo⟩ := rdL_obj I h
  rw [Vals.ref1 r]
  have hl : ys.length ≤ sizeLine := by rw [← r1.length]; exact z
  refine PySem.W.sorted_data (R := fun u b => ∃ v, RelV v u ∧ c.Rep H v b) (enc := toP) (show s.heap.IsList a its.toArray from ⟨_, eo, rfl, n, rfl⟩) (each_rel rv r1) (reads_of hK I rv r1 k3) k1 k2 hl (fun b hb => ?_) fun out ho eo => ?_
  · have := (shaped_toP b 60 (k3 b hb)).2
    omega
  · obtain ⟨ws, q1, q2⟩ := rel_each eo
    obtain ⟨cn, hc⟩ := PyProof.Rows.sortedAll_at s.heap its out.toArray
    have hlw : ws.length ≤ sizeLine := by rw [q1.length, ho]; exact hl
    have keep : ∀ b o, s.heap.get? b = some o → (PyProof.Rows.sortedAll s.heap its out.toArray).get? b = some o := fun b o e => PyProof.Rows.sortedAll_old e
    refine ⟨.ref (s.heap.objs.size + 1), _, I.laid (t' := s.toks) (o := .lst ws) keep (Nat.le_succ _) ⟨hlw, out, cn, q1, hc⟩, rfl, ?_⟩
    exact got_lst bk ok hlw (I.hok.fresh (Nat.le_succ _)) q2 q
end
end QL
namespace QL
open PySem PySem.Spec PyProof.Rows L2
/-! ### what is walked -/
/-- all that is not barred stays -/
def Kp (O : Addr → Prop) (H H' : Hp) : Prop := ∀ b o, H b = some o → ¬ O b → H' b = some o
theorem Kp.refl {O : Addr → Prop} (H : Hp) : Kp O H H := fun _ _ e _ => e
theorem Kp.trans {O : Addr → Prop} {H H1 H2 : Hp} (a : Kp O H H1) (b : Kp O H1 H2) : Kp O H H2 := fun c o e n => b c o (a c o e n) n
theorem Kp.of {β : Option Addr} {O Hd : Addr → Prop} {H H' : Hp} (bk : Bk β O Hd H) (g : Gr β H H') : Kp O H H' := fun b o e n => g b o e fun z => n (bk b z).1.1
/-- n things ds come, whatever (within Rl) becomes of the heap meanwhile -/
def Src (c : Fx) (Rl : Hp → Hp → Prop) (J : It) (H : Hp) (ds : DS) : Prop := ds.length ≤ sizeLine ∧ ∃ (G : Hp → Prop) (Y : Nat → Hp → V → Hp → Prop), Walk J ds.length G Y ∧ (∀ H1, Rl H H1 → G H1) ∧
  ∀ O' : Addr → Prop, (∀ a, c.O a → O' a) → (∀ a, O' a → c.O a ∨ H a = none) → ∀ i H1 x H2 d, ds[i]? = some d → Rl H H1 → Y i H1 x H2 → Same H1 H2 ∧ QL.Rep c.K c.β O' H2 x d
/-- how the heap may change: in a comprehension, in a for -/
def RlG (c : Fx) (H H1 : Hp) : Prop := Kp c.Hd H H1 ∧ OkO c.O H ∧ ∀ a, c.Hd a → c.O a
def RlK (c : Fx) (H H1 : Hp) : Prop := Kp c.O H H1 ∧ OkO c.O H
abbrev WI := En → DS → (DS → DS → Prop) → Prop
abbrev tX (c : Fx) (Rl : Hp → Hp → Prop) (w : WI) : TI := fun σ H R => ∃ ρ st, At c H σ ρ st ∧ w ρ st (fun ds st' => ∀ J H', Gr c.β H H' → c.BrR H' st' → OkO c.O H' → Src c Rl J H' ds → R J H')
mutual
theorem Rep.kp2 {K : PySem.W.Frag} {β : Option Addr} {O O' : Addr → Prop} {H H' : Hp} (ol : OkO O H) (sub : ∀ a, O a → O' a) (g : Kp O H H') : ∀ {v : V} {d : D}, Rep K β O' H v d → Rep K β O' H' v d
  | _, _, .non => .non
  | _, _, .bl _ => .bl _
  | _, _, .int _ => .int _
  | _, _, .str _ z => .str _ z
  | _, _, .tup (a := a) z h r => .tup z (by
      rcases h with (h | ⟨o, h⟩) | h
      · exact .inl (.inl (g _ _ h fun oa => by obtain ⟨vs, q⟩ := ol _ oa; rw [h] at q; cases q))
      · exact .inl (.inr ⟨o, g _ _ h fun oa => by obtain ⟨vs, q⟩ := ol _ oa; rw [h] at q; cases q⟩)
      · exact .inr h) (RepL.kp2 ol sub g r)
  | _, _, .lst z n h r => .lst z n (g _ _ h fun o => n (sub _ o)) (RepL.kp2 ol sub g r)
  | _, _, .brook e => .brook e
  | _, _, .scr h => .scr (h.to fun o q => g _ _ q fun oa => by
      obtain ⟨vs, z⟩ := ol _ oa
      rw [q] at z; cases z)
  | _, _, .raw _ => .raw _
theorem RepL.kp2 {K : PySem.W.Frag} {β : Option Addr} {O O' : Addr → Prop} {H H' : Hp} (ol : OkO O H) (sub : ∀ a, O a → O' a) (g : Kp O H H') : ∀ {vs : List V} {ds : List D}, RepL K β O' H vs ds → RepL K β O' H' vs ds
  | _, _, .nil => .nil
  | _, _, .cons h r => .cons (Rep.kp2 ol sub g h) (RepL.kp2 ol sub g r)
end
theorem RlG.rep {c : Fx} {O' : Addr → Prop} {H H1 : Hp} {v : V} {d : D} (s : ∀ a, c.O a → O' a) (s' : ∀ a, O' a → c.O a ∨ H a = none) (g : RlG c H H1) (r : c.Rep H v d) : QL.Rep c.K c.β O' H1 v d :=
  (r.moreO s').kp2 g.2.1 s fun b o e n => g.1 b o e fun z => n (g.2.2 b z)
theorem RlK.rep {c : Fx} {O' : Addr → Prop} {H H1 : Hp} {v : V} {d : D} (s : ∀ a, c.O a → O' a) (s' : ∀ a, O' a → c.O a ∨ H a = none) (g : RlK c H H1) (r : c.Rep H v d) : QL.Rep c.K c.β O' H1 v d :=
  (r.moreO s').kp2 g.2 s g.1
section
variable {X : Cx} {c : Fx} {fr : Bool} {σ : L2.St} {H : Hp} {ρ : En} {st : DS} {tg e a b : Expr} {w wa wb : W} {pos p tpos : Pos} {elts : List Expr} {kk : Nat}
theorem PIimp {t t' : TI} (h : PI X tg e t) (f : ∀ σ H R, t' σ H R → t σ H R) : PI X tg e t' := ⟨fun pins s σ H R I q => h.run pins s σ H R I (f _ _ _ q)⟩
/-- the things of a list or tuple -/
def wSeq (w : W) : WI := fun ρ st k => w ρ st fun x st1 => ∃ xs, (x = .tup xs ∨ x = .lst xs) ∧ k xs st1
theorem repT_lstN {v : V} {ds : DS} {st : DS} (br : c.BrR H st) (hd : ∀ a, c.Hd a → c.O a) (h : c.RepT H v (.lst ds)) : ∃ a vs, v = .ref a ∧ ¬ c.Hd a ∧ vs.length ≤ sizeLine ∧ H a = some (.lst vs) ∧ c.RepL H vs ds := by
  rcases h with h | ⟨a, e, _, n, ds', vs, e', h, z, r⟩
  · cases h with
    | lst z n h r => exact ⟨_, _, rfl, fun e => n (hd _ e), z, h, r⟩
  · cases e'
    exact ⟨a, vs, e, n, z, h, r⟩
/-- a list or tuple whose place stays -/
def SqX (K : PySem.W.Frag) (H : Hp) (k : Bool) (a : Addr) (xs : List V) : Prop := match k with
  | false => H a = some (.lst xs)
  | true => SqT K H a xs
/-- what keeps the data that stand in H -/
structure Rlx (c : Fx) (Rl : Hp → Hp → Prop) (H : Hp) : Prop where
  rep : ∀ (O' : Addr → Prop) H1 v d, (∀ a, c.O a → O' a) → (∀ a, O' a → c.O a ∨ H a = none) → Rl H H1 → c.Rep H v d → QL.Rep c.K c.β O' H1 v d
theorem rlxG : Rlx c (RlG c) H := ⟨fun _ _ _ _ s s' g r => g.rep s s' r⟩
theorem rlxK : Rlx c (RlK c) H := ⟨fun _ _ _ _ s s' g r => g.rep s s' r⟩
/-- a value that is walked: where it stands, what is in it -/
def SeqV (c : Fx) (Rl : Hp → Hp → Prop) (H : Hp) (v : V) (ds : DS) (k : Bool) : Prop := ∃ a vs, v = .ref a ∧ vs.length ≤ sizeLine ∧ c.RepL H vs ds ∧ SqX c.K H k a vs ∧ ∀ H1, Rl H H1 → SqX c.K H1 k a vs
theorem sqT_kp {x : Addr} {vs : List V} {H' : Hp} (ol : OkO c.O H) (g : Kp c.O H H') (h : SqT c.K H x vs) : SqT c.K H' x vs := by
  rcases h with (h | ⟨o, h⟩) | h
  · exact .inl (.inl (g _ _ h fun oa => by obtain ⟨vs, q⟩ := ol _ oa; rw [h] at q; cases q))
  · exact .inl (.inr ⟨o, g _ _ h fun oa => by obtain ⟨vs, q⟩ := ol _ oa; rw [h] at q; cases q⟩)
  · exact .inr h
theorem seqG {v : V} {d : D} {ds : DS} {st : DS} (br : c.BrR H st) (ok : OkO c.O H) (hd : ∀ a, c.Hd a → c.O a) (h : c.RepT H v d) (e : d = .tup ds ∨ d = .lst ds) : ∃ k, SeqV c (RlG c) H v ds k := by
  rcases e with e | e
  · subst e
    obtain ⟨a, vs, rfl, z, h1, r1⟩ := RepT.tup h
    exact ⟨true, a, vs, rfl, z, r1, h1, fun H1 g => sqT_kp g.2.1 (fun b o e n => g.1 b o e fun z => n (g.2.2 b z)) h1⟩
  · subst e
    obtain ⟨a, vs, rfl, n, z, h1, r1⟩ := repT_lstN br hd h
    exact ⟨false, a, vs, rfl, z, r1, h1, fun H1 g => g.1 _ _ h1 n⟩
theorem seqK {v : V} {d : D} {ds : DS} (ok : OkO c.O H) (h : c.Rep H v d) (e : d = .tup ds ∨ d = .lst ds) : ∃ k, SeqV c (RlK c) H v ds k := by
  rcases e with e | e
  · subst e
    cases h with
    | tup z h1 r1 => exact ⟨true, _, _, rfl, z, r1, h1, fun H1 g => sqT_kp g.2 g.1 h1⟩
  · subst e
    cases h with
    | lst z n h1 r1 => exact ⟨false, _, _, rfl, z, r1, h1, fun H1 g => g.1 _ _ h1 n⟩
theorem src_of {Rl : Hp → Hp → Prop} {J : It} {G : Hp → Prop} {vs : List V} {ds : DS} (rx : Rlx c Rl H) (z : vs.length ≤ sizeLine) (r : c.RepL H vs ds) (w : Walk J vs.length G (YAt vs)) (g : ∀ H1, Rl H H1 → G H1) : Src c Rl J H ds := by
  refine ⟨by rw [← r.length]; exact z, G, YAt vs, by rw [← r.length]; exact w, g, fun O' s s' i H1 y H2 d e g ⟨eH, ey⟩ => ?_⟩
  subst eH
  obtain ⟨v, q1, q2⟩ := r.get e
  rw [q1] at ey; cases ey
  exact ⟨Same.refl _, rx.rep O' _ _ _ s s' g q2⟩
/-- either: a list or a tuple, by what stands there -/
theorem pi_any {l : Expr} {tl : TE} (hl : PE X l tl) : PI X tg l (fun σ H R => tl σ H fun x H1 => ∃ a, x = .ref a ∧ ((∃ xs, SqL X.K H1 a xs ∧ R (Itl X.K a) H1) ∨ ∃ xs, SqT X.K H1 a xs ∧ R (Itt X.K a) H1)) := by
  refine ⟨fun pins s σ H R I h => ?_⟩
  refine thn (hl.run pins s σ H _ I h) fun v s1 ⟨x, H1, I1, r1, a, e, q⟩ => ?_
  have key : PE X l tl → True := fun _ => trivial
  rcases q with ⟨xs, hq, q⟩ | ⟨xs, hq, q⟩
  · subst e
    cases r1
    obtain ⟨its, rv, pl, hz⟩ := I1.list hq
    refine wpAny_pyIter_list pl.isList ?_
    refine ⟨s1.heap.objs.size, [s1.heap.objs.size], _, _, H1, rfl, I1.kept (t' := s1.toks) fun b o e => Heap.get?_push_of_some _ e, turn_list a _, ⟨_, Heap.get?_push_size _ rfl, rfl, rfl⟩, fun b hb => ?_, q⟩
    obtain rfl : b = s1.heap.objs.size := by simpa using hb
    exact I1.fpOk (Nat.le_refl _) (I1.hok.fresh (Nat.le_refl _))
  · subst e
    cases r1
    obtain ⟨its, rv, pl, hz⟩ := I1.tuple hq
    refine wpAny_pyIter_tuple (show s1.heap.IsTuple a its.toArray from pl) ?_
    refine ⟨s1.heap.objs.size, [s1.heap.objs.size], _, _, H1, rfl, I1.kept (t' := s1.toks) fun b o e => Heap.get?_push_of_some _ e, turn_tuple a _, ⟨_, Heap.get?_push_size _ rfl, rfl, rfl⟩, fun b hb => ?_, q⟩
    obtain rfl : b = s1.heap.objs.size := by simpa using hb
    exact I1.fpOk (Nat.le_refl _) (I1.hok.fresh (Nat.le_refl _))
theorem walk_any {Rl : Hp → Hp → Prop} {x : V} {ds : DS} {k : Bool} {R : It → Hp → Prop} (hK : c.K = X.K) (rx : Rlx c Rl H) (h : SeqV c Rl H x ds k) (q : ∀ J, Src c Rl J H ds → R J H) :
    ∃ a, x = .ref a ∧ ((∃ xs, SqL X.K H a xs ∧ R (Itl X.K a) H) ∨ ∃ xs, SqT X.K H a xs ∧ R (Itt X.K a) H) := by
  obtain ⟨a, vs, rfl, z, r1, h0, h1⟩ := h
  cases k with
  | true => exact ⟨a, rfl, .inr ⟨vs, hK ▸ h0, q _ (src_of rx z r1 walk_tup fun H1 g => hK ▸ h1 H1 g)⟩⟩
  | false => exact ⟨a, rfl, .inl ⟨vs, .inl (.inl h0), q _ (src_of rx z r1 walk_list fun H1 g => .inl (.inl (h1 H1 g)))⟩⟩
theorem pid_seq (hK : c.K = X.K) (hd : ∀ a, c.Hd a → c.O a) (m : Mono w) (h : PE X e (tR c w)) : PI X tg e (tX c (RlG c) (wSeq w)) :=
  PIimp (pi_any h) fun σ H R ⟨ρ, st, A, hw⟩ => by
    refine tG_use m A hw fun x st1 v H1 g1 r1 A1 ⟨xs, e, k⟩ => ?_
    obtain ⟨kk, q⟩ := seqG A1.br A1.ok hd r1 e
    exact walk_any hK rlxG q fun J s => k J H1 g1 A1.br A1.ok s
theorem pjd_seq (hK : c.K = X.K) (m : Mono w) (h : PE X e (tE c fr w)) : PI X tg e (tX c (RlK c) (wSeq w)) :=
  PIimp (pi_any h) fun σ H R ⟨ρ, st, A, hw⟩ => by
    refine tG_use m A hw fun x st1 v H1 g1 r1 A1 ⟨xs, e, k⟩ => ?_
    obtain ⟨kk, q⟩ := seqK A1.ok r1.1 e
    exact walk_any hK rlxK q fun J s => k J H1 g1 A1.br A1.ok s
/-! range -/
def rgD (lo : Int) (n : Nat) : DS := (List.range n).map fun i => .int (lo + (i : Nat))
theorem rgD_get {lo : Int} {n i : Nat} {d : D} (h : (rgD lo n)[i]? = some d) : d = .int (lo + (i : Nat)) := by
  unfold rgD at h
  rw [List.getElem?_map] at h
  cases q : (List.range n)[i]? with
  | none => rw [q] at h; cases h
  | some j =>
    rw [q] at h
    have hj := List.getElem?_eq_some_iff.mp q
    obtain ⟨h1, h2⟩ := hj
    rw [List.getElem_range] at h2
    subst h2
    cases h; rfl
theorem src_rng {Rl : Hp → Hp → Prop} {lo : Int} {n : Nat} (z : n ≤ sizeLine) : Src c Rl (Itr lo n) H (rgD lo n) := by
  have hl : (rgD lo n).length = n := by unfold rgD; simp
  refine ⟨by rw [hl]; exact z, fun _ => True, YFn fun i => .int (lo + i), by rw [hl]; exact walk_range, fun _ _ => trivial, fun O' s s' i H1 y H2 d e g ⟨eH, ey⟩ => ?_⟩
  subst eH ey
  rw [rgD_get e]
  exact ⟨Same.refl _, .int _⟩
def wRng1 (ws : WL) : WI := fun ρ st k => ws ρ st fun xs st1 => ∃ j : Int, xs = [.int j] ∧ -(2 ^ 62) ≤ j ∧ j ≤ sizeLine ∧ k (rgD 0 j.toNat) st1
def wRng2 (ws : WL) : WI := fun ρ st k => ws ρ st fun xs st1 => ∃ i j : Int, xs = [.int i, .int j] ∧ (-(2 ^ 62) ≤ i ∧ i < 2 ^ 62 ∧ -(2 ^ 62) ≤ j ∧ j < 2 ^ 62) ∧ j - i ≤ sizeLine ∧ k (rgD i (j - i).toNat) st1
theorem pid_rng1 {Rl : Hp → Hp → Prop} {ws : WL} (ms : MonoL ws) (hg : Gl X "range") (hm : X.mg "range" = none) (h : PA X [a] (tL c (RepTL c) ws)) (hs : starEach [a] X.env = [(false, eval a X.env)]) : PI X tg (.Call (.Name "range" p) [a] [] pos) (tX c Rl (wRng1 ws)) :=
  PIimp (pi_range1 hg hm h hs) fun σ H R ⟨ρ, st, A, hw⟩ => by
    refine tL_use ms A hw fun xs st1 vs H1 g1 r1 A1 ⟨j, e, h0, hj, k⟩ => ?_
    subst e
    obtain ⟨v, rfl, hv⟩ := rtl1 r1
    have e1 := repT_int hv
    subst e1
    have z : (sizeLine : Int) < 2 ^ 62 := by decide
    exact ⟨j, rfl, h0, by omega, k _ H1 g1 A1.br A1.ok (src_rng (by omega))⟩
theorem pid_rng2 {Rl : Hp → Hp → Prop} {ws : WL} (ms : MonoL ws) (hg : Gl X "range") (hm : X.mg "range" = none) (h : PA X [a, b] (tL c (RepTL c) ws)) (hs : starEach [a, b] X.env = [(false, eval a X.env), (false, eval b X.env)]) (hs2 : starEach [b] X.env = [(false, eval b X.env)]) :
    PI X tg (.Call (.Name "range" p) [a, b] [] pos) (tX c Rl (wRng2 ws)) :=
  PIimp (pi_range2 hg hm h hs hs2) fun σ H R ⟨ρ, st, A, hw⟩ => by
    refine tL_use ms A hw fun xs st1 vs H1 g1 r1 A1 ⟨i, j, e, h0, hj, k⟩ => ?_
    subst e
    obtain ⟨v, w, rfl, hv, hw⟩ := rtl2 r1
    have e1 := repT_int hv; have e2 := repT_int hw
    subst e1 e2
    exact ⟨i, j, rfl, h0, k _ H1 g1 A1.br A1.ok (src_rng (by omega))⟩
/-! zip, enumerate -/
def zipD : DS → DS → DS
  | x :: xs, y :: ys => .tup [x, y] :: zipD xs ys
  | _, _ => []
theorem zipD_length : ∀ xs ys : DS, (zipD xs ys).length = min xs.length ys.length
  | [], ys => by simp [zipD]
  | _ :: _, [] => by simp [zipD]
  | x :: xs, y :: ys => by
    simp only [zipD, List.length_cons, zipD_length xs ys]
    omega
theorem zipD_get : ∀ {xs ys : DS} {i : Nat} {d : D}, (zipD xs ys)[i]? = some d → ∃ x y, d = .tup [x, y] ∧ xs[i]? = some x ∧ ys[i]? = some y
  | [], _, _, _, h => by simp [zipD] at h
  | _ :: _, [], _, _, h => by simp [zipD] at h
  | x :: xs, y :: ys, 0, d, h => by
    simp only [zipD, List.getElem?_cons_zero, Option.some.injEq] at h
    exact ⟨x, y, h.symm, rfl, rfl⟩
  | x :: xs, y :: ys, i + 1, d, h => by
    simp only [zipD, List.getElem?_cons_succ] at h ⊢
    exact zipD_get h
theorem rep_pairG {O' : Addr → Prop} {H1 : Hp} {T : Addr} {x y : V} {dx dy : D} (hT : H1 T = none) (hx : QL.Rep c.K c.β O' H1 x dx) (hy : QL.Rep c.K c.β O' H1 y dy) : QL.Rep c.K c.β O' (upd H1 T (.tup [x, y])) (.ref T) (.tup [dx, dy]) :=
  .tup (by show 2 ≤ sizeLine; decide) (.inl (.inl upd_same)) (.cons (Rep.sameH (same_new hT) hx) (.cons (Rep.sameH (same_new hT) hy) .nil))
end
end QL
namespace QL
open PySem PySem.Spec PyProof.Rows L2
/-! ### walks that give new pairs -/
def ItP (G : Hp → Prop) (n : Nat) (px py : Nat → V) : It :=
  ⟨fun i H => i < n ∧ G H, fun i H v H' => ∃ T, v = .ref T ∧ H T = none ∧ H' = upd H T (.tup [px i, py i]), fun i H => i = n ∧ G H⟩
theorem walk_P {G : Hp → Prop} {n : Nat} {px py : Nat → V} : Walk (ItP G n px py) n G (fun i H v H' => ∃ T, v = .ref T ∧ H T = none ∧ H' = upd H T (.tup [px i, py i])) :=
  ⟨fun _ _ hi g => ⟨hi, g⟩, fun _ g => ⟨rfl, g⟩, fun _ _ _ _ _ _ y => y⟩
def IterX (h : Heap) (k : Bool) (it a : Addr) (i : Nat) : Prop := match k with
  | false => h.IsListIter it a i
  | true => h.IsTupleIter it a i
def SeqX (h : Heap) (k : Bool) (a : Addr) (items : Array Value) : Prop := match k with
  | false => h.IsList a items
  | true => h.IsTuple a items
def iterO (k : Bool) (a : Addr) : Obj := match k with
  | false => { cls := .type "list_iterator", data := .fields #[.ref a, .int 0 0] }
  | true => { cls := .type "tuple_iterator", data := .fields #[.ref a, .int 0 0] }
theorem IterX.at {h h' : Heap} {k : Bool} {it a : Addr} {i : Nat} (x : IterX h k it a i) (q : ∀ o, h.get? it = some o → h'.get? it = some o) : IterX h' k it a i := by
  cases k with
  | false => exact Heap.IsListIter.at x q
  | true => exact Heap.IsTupleIter.at x q
theorem IterX.obj {h : Heap} {k : Bool} {it a : Addr} {i : Nat} (x : IterX h k it a i) : ∃ o, h.get? it = some o ∧ ∀ v, o.data ≠ .cell v := by
  cases k with
  | false =>
    obtain ⟨o, e, c, d⟩ := x
    exact ⟨o, e, fun v z => by rw [d] at z; cases z⟩
  | true =>
    obtain ⟨o, e, c, d⟩ := x
    exact ⟨o, e, fun v z => by rw [d] at z; cases z⟩
theorem IterX.new {h : Heap} {k : Bool} {it a : Addr} (e : h.get? it = some (iterO k a)) : IterX h k it a 0 := by
  cases k with
  | false => exact ⟨_, e, rfl, rfl⟩
  | true => exact ⟨_, e, rfl, rfl⟩
theorem SeqX.lt {h : Heap} {k : Bool} {a : Addr} {items : Array Value} (x : SeqX h k a items) : a < h.objs.size := by
  cases k with
  | false => obtain ⟨o, e, _⟩ := x; exact Heap.lt_size e
  | true => obtain ⟨o, e, _⟩ := x; exact Heap.lt_size e
theorem beginsX (k : Bool) (a : Addr) (items : Array Value) : Begins (.ref a) (iterO k a) fun h => SeqX h k a items := by
  cases k with
  | false => exact begins_list a items
  | true => exact begins_tuple a items
theorem drawsX {prog : Program} {w : World} {A : Around} (hh : A.handled = none) (k : Bool) (it a : Addr) (hne : a ≠ it) (items : Array Value) :
    Draws prog w A it [it, a] items.size (fun i v => items[i]? = some v) (fun i h => IterX h k it a i ∧ SeqX h k a items) := by
  cases k with
  | false => exact Draws.list hh it a hne items
  | true => exact Draws.tuple hh it a hne items
section
variable {X : Cx} {pins : List (Addr × Obj)} {σ : L2.St} {H : Hp} {s : Shared}
theorem Inv.seqX {k : Bool} {a : Addr} {xs : List V} (I : Inv X pins σ H s) (h : SqX X.K H k a xs) : ∃ its : List Value, Vals xs its ∧ SeqX s.heap k a its.toArray := by
  cases k with
  | false =>
    obtain ⟨its, n, r, e⟩ := rdL_obj I h
    exact ⟨its, r, _, e, rfl, n, rfl⟩
  | true =>
    obtain ⟨its, r, p, _⟩ := I.tuple h
    exact ⟨its, r, p⟩
/-- the walk's machine, from the library's -/
theorem turn_pairs {P : Program} {w : World} {K : PySem.W.Frag} {tg : Expr} {G : Hp → Prop} {n : Nat} {px py : Nat → V} {it : Addr} {fp : List Addr} {tn : Nat → Heap → Prop} (mem : it ∈ fp)
    (obj : ∀ i h, tn i h → ∀ b ∈ fp, ∃ o, h.get? b = some o ∧ ∀ v, o.data ≠ .cell v)
    (keep : ∀ i h h', tn i h → (∀ b ∈ fp, ∀ o, h.get? b = some o → h'.get? b = some o) → tn i h')
    (self : ∀ (A : Around) (i : Nat) (s : Shared) (Q : Value → Shared → Prop) (E : Value → Shared → Prop), tn i s.heap → Q (.ref it) s → wpAny (model P w) A (pyIter (.ref it)) Q E s)
    (run : ∀ (X : Cx), X.prog = P → X.w = w → X.K = K → X.calm = true → ∀ (pins : List (Addr × Obj)) (s : Shared) (σ : L2.St) (H : Hp), Inv X pins σ H s → G H → (∀ b ∈ fp, FpOk X pins H b) →
      ∃ (fpG wr : List Addr) (Y : Nat → Heap → Value → Heap → Prop) (St : Nat → Heap → Prop), GoesN P w X.A tg it fpG wr n Y St ∧ (∀ b ∈ wr, b ∈ fp) ∧ (∀ i, tn i s.heap → St i s.heap) ∧ (∀ i h, St i h → tn i h) ∧
        ∀ i h0 v h, i < n → Y i h0 v h → ∃ T ux uy, v = .ref T ∧ h0.objs.size ≤ T ∧ RelV (px i) ux ∧ RelV (py i) uy ∧ h.IsTuple T #[ux, uy]) :
    Turn P w K tg (ItP G n px py) fp it tn where
  mem := mem
  obj := obj
  keep := keep
  item := by
    intro X hP hw hK hc i pins s σ H E I hf st ⟨hi, hg⟩
    obtain ⟨fpG, wr, Y, St, W, sub, s1, s2, yy⟩ := run X hP hw hK hc pins s σ H I hg hf
    subst hP hw hK
    refine thn (W.goes i s (fun u s2 => ∃ x H', Inv X pins σ H' s2 ∧ RelV x u ∧ (ItP G n px py).yld i H x H' ∧ tn (i + 1) s2.heap ∧ ∀ b ∈ fp, H' b = none) E hi (s1 i st) fun v h' tk hY hS hk ht => ?_) fun r s1 ⟨v, e, h⟩ => ⟨v, e, h⟩
    obtain ⟨T, ux, uy, rfl, hT, rx, ry, ho, hc', hn'⟩ := yy i _ _ _ hi hY
    have new : ObjOk X.prog X.w (upd H T (.tup [px i, py i])) h' T (.tup [px i, py i]) := ⟨by show 2 ≤ sizeLine; decide, [ux, uy], .cons rx (.cons ry .nil), ho, hc', hn'⟩
    refine ⟨.ref T, _, Inv.turnedNew (t' := tk) (ch := fp) I (fun b o hb e => hk b o (fun z => hb (sub b z)) e) hf hT new, rfl, ⟨T, rfl, I.hok.fresh hT, rfl⟩, s2 _ _ hS, fun b hb => ?_⟩
    obtain ⟨o, e, _⟩ := obj i _ st b hb
    rw [upd_ne (Nat.ne_of_lt (Nat.lt_of_lt_of_le (Heap.lt_size e) hT))]
    exact (hf b hb).1
  done := by
    intro X hP hw hK hc i pins s σ H E I hf st ⟨hi, hg⟩
    obtain ⟨fpG, wr, Y, St, W, sub, s1, s2, yy⟩ := run X hP hw hK hc pins s σ H I hg hf
    subst hP hw hK hi
    refine thn (W.stops s (fun s1 => Inv X pins σ H s1) E (s1 _ st) fun h' tk hk ht => ?_) fun r s1 h => h
    exact Inv.turnedL (t' := tk) (ch := fp) I (fun b o hb e => hk b o (fun z => hb (sub b z)) e) hf
  self := self
end
section
variable {X : Cx} {c : Fx} {tg e a b : Expr} {pos p tpos : Pos} {elts : List Expr} {kk : Nat}
theorem pairs_at {α β : Type} {R : α → β → Prop} {d : α} {xs : List α} {ys : List β} {i : Nat} {y : β} (hl : xs.length = ys.length) (h : ∀ (j : Nat) x z, xs[j]? = some x → ys[j]? = some z → R x z) (hy : ys[i]? = some y) : R (xs.getD i d) y := by
  have hlt : i < ys.length := (List.getElem?_eq_some_iff.mp hy).1
  have hx : xs[i]? = some xs[i] := List.getElem?_eq_getElem (by omega)
  rw [List.getD_eq_getElem?_getD, hx]
  exact h i _ _ hx hy
theorem vals_at {xs : List V} {us : List Value} {i : Nat} {u : Value} (r : Vals xs us) (h : us[i]? = some u) : RelV (xs.getD i .non) u := by
  refine pairs_at r.length (fun j x z h1 h2 => ?_) h
  obtain ⟨u', q1, q2⟩ := r.get h1
  rw [q1] at h2; cases h2
  exact q2
/-- for .. in zip(x, y): lists, tuples -/
def iZipX (K : PySem.W.Frag) (ta : TA) : TI := fun σ H R => ta σ H fun vs H1 => ∃ k1 k2 a b xs ys, vs = [.ref a, .ref b] ∧ SqX K H1 k1 a xs ∧ SqX K H1 k2 b ys ∧ R (ItP (fun H => SqX K H k1 a xs ∧ SqX K H k2 b ys) (min xs.length ys.length) (fun i => xs.getD i .non) (fun i => ys.getD i .non)) H1
theorem pi_zipX {ta : TA} (hg : Gl X "zip") (hm : X.mg "zip" = none) (ha : PA X [a, b] ta) (hs : starEach [a, b] X.env = (false, eval a X.env) :: starEach [b] X.env) (hpl : (backTo pos (starEach [b] X.env)).any (·.1) = false) :
    PI X (.Tuple elts kk tpos) (.Call (.Name "zip" p) [a, b] [] pos) (iZipX X.K ta) := by
  refine ⟨fun pins s σ H R I h => ?_⟩
  refine Call_ (ld_blt I hg hm PyProof.Rows.boot_zip (PyProof.Rows.callWith_type1 (thn (ha.run pos pins s σ H _ I h) fun us s1 ⟨vs, H1, I1, r1, q1⟩ => ?_) hs hpl))
  obtain ⟨k1, k2, a, b, xs, ys, rfl, hx, hy, q⟩ := q1
  obtain ⟨ua, ub, rfl, ra, rb⟩ := vals2 r1
  cases ra
  cases rb
  obtain ⟨its, rv, sx⟩ := Inv.seqX I1 hx
  obtain ⟨its2, rv2, sy⟩ := Inv.seqX I1 hy
  generalize hN : s1.heap.objs.size = N at *
  refine zip_begins2 (beginsX k1 a its.toArray) (beginsX k2 b its2.toArray) sx sy fun h' hz hTI hTO h1 h2 hsz hk => wpAny_pyIter_zip hz ?_
  rw [hN] at hz hTI hTO h1 h2 hsz
  have la : a < N := hN ▸ sx.lt
  have lb : b < N := hN ▸ sy.lt
  rw [hN]
  have I2 : Inv X pins σ H1 { s1 with heap := h' } := I1.kept (t' := s1.toks) hk
  refine ⟨N + 4, [N + 4, N + 2, N + 3, N, N + 1], fun i h => IsZip h (N + 4) (N + 2) (N + 3) .none ∧ IsTupOf2 h (N + 2) (.ref N) (.ref (N + 1)) ∧ (∃ u v, IsTupOf2 h (N + 3) u v) ∧ IterX h k1 N a i ∧ IterX h k2 (N + 1) b i,
    _, H1, rfl, I2, ?_, ⟨hz, hTI, ⟨_, _, hTO⟩, IterX.new h1, IterX.new h2⟩, fun d hd => ?_, q⟩
  · refine turn_pairs (by simp) (fun i h st d hd => ?_) (fun i h h'' st k => ?_) (fun A i s Q E st h => wpAny_pyIter_zip st.1 h) fun X' hP hw hK hc pins' s' σ' H' I' ⟨g1, g2⟩ hf => ?_
    · obtain ⟨hz, hTI, ⟨u, v, hTO⟩, i1, i2⟩ := st
      have hd' : d = N + 4 ∨ d = N + 2 ∨ d = N + 3 ∨ d = N ∨ d = N + 1 := by simpa using hd
      rcases hd' with rfl | rfl | rfl | rfl | rfl
      · exact ⟨_, hz, fun v q => nomatch q⟩
      · exact ⟨_, hTI, fun v q => nomatch q⟩
      · exact ⟨_, hTO, fun v q => nomatch q⟩
      · exact i1.obj
      · exact i2.obj
    · obtain ⟨hz, hTI, ⟨u, v, hTO⟩, i1, i2⟩ := st
      exact ⟨k _ (by simp) _ hz, k _ (by simp) _ hTI, ⟨u, v, k _ (by simp) _ hTO⟩, i1.at fun o e => k _ (by simp) o e, i2.at fun o e => k _ (by simp) o e⟩
    · have g1' : SqX X'.K H' k1 a xs := hK ▸ g1
      have g2' : SqX X'.K H' k2 b ys := hK ▸ g2
      obtain ⟨jts, rv', sx'⟩ := Inv.seqX I' g1'
      obtain ⟨jts2, rv2', sy'⟩ := Inv.seqX I' g2'
      have na : a ≠ N := Nat.ne_of_lt la
      have nb : b ≠ N + 1 := Nat.ne_of_lt (Nat.lt_succ_of_lt lb)
      have hh : X'.A.in1.handled = none := I'.ok.hd hc
      have sep := zip_sep2 (N := N) (fp1 := [a]) (fp2 := [b]) (by simpa using la) (by simpa using lb)
      have GN := GoesN.zip2 (prog := X.prog) (w := X.w) (A := X'.A) (elts := elts) (x1 := kk) (pos := tpos) sep (drawsX (A := X'.A.in1) hh k1 N a na jts.toArray) (drawsX (A := X'.A.in1) hh k2 (N + 1) b nb jts2.toArray)
      have hl : min jts.toArray.size jts2.toArray.size = min xs.length ys.length := by rw [List.size_toArray, List.size_toArray, rv'.length, rv2'.length]
      rw [hl] at GN
      refine ⟨_, _, _, fun i h => (IsZip h (N + 4) (N + 2) (N + 3) .none ∧ IsTupOf2 h (N + 2) (.ref N) (.ref (N + 1)) ∧ (∃ u v, IsTupOf2 h (N + 3) u v) ∧ (IterX h k1 N a i ∧ SeqX h k1 a jts.toArray) ∧ (IterX h k2 (N + 1) b i ∧ SeqX h k2 b jts2.toArray)), GN, fun d hd => ?_, fun i st => ⟨st.1, st.2.1, st.2.2.1, ⟨st.2.2.2.1, sx'⟩, ⟨st.2.2.2.2, sy'⟩⟩, fun i h st => ⟨st.1, st.2.1, st.2.2.1, st.2.2.2.1.1, st.2.2.2.2.1⟩, fun i h0 v h hi ⟨T, u, v', e, hT, p1, p2, hh⟩ => ⟨T, u, v', e, hT, vals_at rv' (by simpa using p1), vals_at rv2' (by simpa using p2), hh⟩⟩
      have hd' : d = N + 4 ∨ d = N + 3 ∨ d = N ∨ d = N + 1 := by simpa using hd
      rcases hd' with rfl | rfl | rfl | rfl <;> simp
  · have hd' : d = N + 4 ∨ d = N + 2 ∨ d = N + 3 ∨ d = N ∨ d = N + 1 := by simpa using hd
    have hle : s1.heap.objs.size ≤ d := by
      rw [hN]
      rcases hd' with rfl | rfl | rfl | rfl | rfl <;> simp [Nat.le_add_right]
    exact I1.fpOk hle (I1.hok.fresh hle)
set_option maxHeartbeats 1000000 in
theorem meets_enum1 {v : Value} {o : Obj} {H : Heap → Prop} (B : Begins v o H) :
    Meets (Builtin.«enumerate.__new__» ⟨[.type "enumerate", v], []⟩) (fun _ R s => H s.heap ∧
      R (.ok (.ret (.ref (s.heap.push o).objs.size))) { s with heap := (s.heap.push o).push { cls := .type "enumerate", data := .fields #[.none, .bool false, .ref s.heap.objs.size, rawInt 0, .none, .none] } }) :=
  .of_wp fun prog w A R s h => by
    obtain ⟨hp, g, d, tk, os⟩ := s
    obtain ⟨h1, h⟩ := h
    have hsub := sub_enumerate
    have q1 : ∀ {A' : Around} {E : Value → Shared → Prop} {Q : Value → Shared → Prop}, Q (.ref hp.objs.size) ⟨hp.push o, g, d, tk, os⟩ → wpAny (model prog w) A' (pyIter v) Q E ⟨hp, g, d, tk, os⟩ := fun q => B.iter prog w _ _ ⟨hp, g, d, tk, os⟩ _ h1 q
    wp_walk using q1
    refine wpAny_stack_any fun st => wpAny_pure ?_
    split
    · rename_i c _ _ _ _ _
      cases (c == Value.type "enumerate") <;> (wp_walk using q1; exact ⟨_, rfl, h⟩)
    · wp_walk using q1
      exact ⟨_, rfl, h⟩
theorem enum1_begins {prog : Program} {w : World} {A : Around} {E : Value → Shared → Prop} {s : Shared} {v : Value} {o : Obj} {H : Heap → Prop} {Q : Value → Shared → Prop} (B : Begins v o H) (h1 : H s.heap)
    (h : ∀ h', IsEnum h' (s.heap.objs.size + 1) s.heap.objs.size 0 .none → h'.get? s.heap.objs.size = some o → (∀ b o, s.heap.get? b = some o → h'.get? b = some o) → Q (.ref (s.heap.objs.size + 1)) { s with heap := h' }) :
    wpAny (model prog w) A (call (.type "enumerate") [v]) Q E s := by
  have hz : (s.heap.push o).objs.size = s.heap.objs.size + 1 := Heap.size_push ..
  have he := Heap.get?_push_size (s.heap.push o) (o := { cls := .type "enumerate", data := .fields #[.none, .bool false, .ref s.heap.objs.size, rawInt 0, .none, .none] }) rfl
  rw [hz] at he
  refine callType_new F.called_enumerate (by decide) (F.typeCall_enumerate_1 _) (F.newCall_enumerate_1 _) (fun obj => F.args_object_init_2 obj _) F.entry_enumerate_new (meets_enum1 B) ⟨h1, ?_⟩
  show _ ∧ _
  rw [hz]
  exact ⟨⟨_, he, rfl⟩, h _ he (Heap.get?_push_of_some _ (Heap.get?_push_size _ B.free)) fun b ob q => Heap.get?_push_of_some _ (Heap.get?_push_of_some _ q)⟩
/-- for i, x in enumerate(xs) -/
def iEnumX (K : PySem.W.Frag) (ta : TA) : TI := fun σ H R => ta σ H fun vs H1 => ∃ k a xs, vs = [.ref a] ∧ SqX K H1 k a xs ∧ R (ItP (fun H => SqX K H k a xs) xs.length (fun i => .int (i : Nat)) (fun i => xs.getD i .non)) H1
theorem pi_enumX {ta : TA} (hg : Gl X "enumerate") (hm : X.mg "enumerate" = none) (ha : PA X [a] ta) (hs : starEach [a] X.env = (false, eval a X.env) :: starEach [] X.env) :
    PI X (.Tuple elts kk tpos) (.Call (.Name "enumerate" p) [a] [] pos) (iEnumX X.K ta) := by
  refine ⟨fun pins s σ H R I h => ?_⟩
  refine Call_ (ld_blt I hg hm PyProof.Rows.boot_enumerate (PyProof.Rows.callWith_type1 (thn (ha.run pos pins s σ H _ I h) fun us s1 ⟨vs, H1, I1, r1, q1⟩ => ?_) hs rfl))
  obtain ⟨k, a, xs, rfl, hx, q⟩ := q1
  obtain ⟨ua, rfl, ra⟩ := vals1 r1
  cases ra
  obtain ⟨its, rv, sx⟩ := Inv.seqX I1 hx
  generalize hN : s1.heap.objs.size = N at *
  refine enum1_begins (beginsX k a its.toArray) sx fun h' he h1 hk => wpAny_pyIter_enum he ?_
  rw [hN] at he h1
  have la : a < N := hN ▸ sx.lt
  rw [hN]
  have I2 : Inv X pins σ H1 { s1 with heap := h' } := I1.kept (t' := s1.toks) hk
  have he0 : IsEnum h' (N + 1) N (0 + ((0 : Nat) : Int)) .none := by
    rw [show (0 : Int) + ((0 : Nat) : Int) = 0 by decide]
    exact he
  refine ⟨N + 1, [N + 1, N], fun i h => (∃ old, IsEnum h (N + 1) N (0 + (i : Int)) old) ∧ IterX h k N a i, _, H1, rfl, I2, ?_, ⟨⟨_, he0⟩, IterX.new h1⟩, fun d hd => ?_, q⟩
  · refine turn_pairs (by simp) (fun i h st d hd => ?_) (fun i h h'' st k => ?_) (fun A i s Q E st h => wpAny_pyIter_enum st.1.choose_spec h) fun X' hP hw hK hc pins' s' σ' H' I' g1 hf => ?_
    · obtain ⟨⟨old, he⟩, i1⟩ := st
      have hd' : d = N + 1 ∨ d = N := by simpa using hd
      rcases hd' with rfl | rfl
      · exact ⟨_, he, fun v q => nomatch q⟩
      · exact i1.obj
    · obtain ⟨⟨old, he⟩, i1⟩ := st
      exact ⟨⟨old, k _ (by simp) _ he⟩, i1.at fun o e => k _ (by simp) o e⟩
    · have g1' : SqX X'.K H' k a xs := hK ▸ g1
      obtain ⟨jts, rv', sx'⟩ := Inv.seqX I' g1'
      have na : a ≠ N := Nat.ne_of_lt la
      have hh : X'.A.in1.handled = none := I'.ok.hd hc
      have GN := GoesN.enumFrom (prog := X.prog) (w := X.w) (A := X'.A) (elts := elts) (x1 := kk) (pos := tpos) 0 (drawsX (A := X'.A.in1) hh k N a na jts.toArray) (N + 1) (Nat.succ_ne_self N)
        (by simp only [List.mem_cons, List.not_mem_nil, or_false, not_or]; exact ⟨Nat.succ_ne_self N, Nat.ne_of_gt (Nat.lt_succ_of_lt la)⟩) (by simp)
      have hl : jts.toArray.size = xs.length := by rw [List.size_toArray, rv'.length]
      rw [hl] at GN
      refine ⟨_, _, _, fun i h => ((∃ old, IsEnum h (N + 1) N (0 + (i : Int)) old) ∧ (IterX h k N a i ∧ SeqX h k a jts.toArray)), GN, fun d hd => ?_, fun i st => ⟨st.1, st.2, sx'⟩, fun i h st => ⟨st.1, st.2.1⟩, fun i h0 v h hi ⟨T, t, u, e, hT, p1, hh⟩ => ⟨T, _, u, e, hT, ?_, vals_at rv' (by simpa using p1), hh⟩⟩
      · have hd' : d = N + 1 ∨ d = N := by simpa using hd
        rcases hd' with rfl | rfl <;> simp
      · exact ⟨t, by rw [Int.zero_add]⟩
  · have hd' : d = N + 1 ∨ d = N := by simpa using hd
    have hle : s1.heap.objs.size ≤ d := by
      rw [hN]
      rcases hd' with rfl | rfl <;> simp [Nat.le_add_right]
    exact I1.fpOk hle (I1.hok.fresh hle)
end
end QL
namespace QL
open PySem PySem.Spec PyProof.Rows L2
abbrev Fx.wo (c : Fx) (O Hd : Addr → Prop) : Fx := { c with O := O, Hd := Hd }
/-! ### zip, enumerate of data -/
def wZip (ws : WL) : WI := fun ρ st k => ws ρ st fun xs st1 => ∃ x y us vs, xs = [x, y] ∧ (x = .tup us ∨ x = .lst us) ∧ (y = .tup vs ∨ y = .lst vs) ∧ k (zipD us vs) st1
def enumD : Nat → DS → DS
  | _, [] => []
  | i, x :: xs => .tup [.int (i : Nat), x] :: enumD (i + 1) xs
theorem enumD_length : ∀ (i : Nat) (xs : DS), (enumD i xs).length = xs.length
  | _, [] => rfl
  | i, x :: xs => by simp only [enumD, List.length_cons, enumD_length (i + 1) xs]
theorem enumD_get : ∀ {xs : DS} {i j : Nat} {d : D}, (enumD i xs)[j]? = some d → ∃ x, d = .tup [.int ((i + j : Nat) : Int), x] ∧ xs[j]? = some x
  | [], _, _, _, h => by simp [enumD] at h
  | x :: xs, i, 0, d, h => by
    simp only [enumD, List.getElem?_cons_zero, Option.some.injEq] at h
    exact ⟨x, h.symm, rfl⟩
  | x :: xs, i, j + 1, d, h => by
    simp only [enumD, List.getElem?_cons_succ] at h ⊢
    obtain ⟨y, e, q⟩ := enumD_get h
    exact ⟨y, by rw [e]; congr 4; omega, q⟩
def wEnum (ws : WL) : WI := fun ρ st k => ws ρ st fun xs st1 => ∃ x us, xs = [x] ∧ (x = .tup us ∨ x = .lst us) ∧ k (enumD 0 us) st1
section
variable {X : Cx} {c : Fx} {fr : Bool} {σ : L2.St} {H : Hp} {ρ : En} {st : DS} {tg e a b : Expr} {w wa wb : W} {pos p tpos : Pos} {elts : List Expr} {kk : Nat} {Rl : Hp → Hp → Prop}
theorem getD_of {vs : List V} {i : Nat} {v : V} (h : vs[i]? = some v) : vs.getD i .non = v := by
  rw [List.getD_eq_getElem?_getD, h]; rfl
theorem src_zip {k1 k2 : Bool} {a b : Addr} {vs ws : List V} {xs ys : DS} (hK : c.K = X.K) (rx : Rlx c Rl H) (z : vs.length ≤ sizeLine) (h1 : c.RepL H vs xs) (h2 : c.RepL H ws ys) (g1 : ∀ H1, Rl H H1 → SqX c.K H1 k1 a vs) (g2 : ∀ H1, Rl H H1 → SqX c.K H1 k2 b ws) :
    Src c Rl (ItP (fun H => SqX X.K H k1 a vs ∧ SqX X.K H k2 b ws) (min vs.length ws.length) (fun i => vs.getD i .non) (fun i => ws.getD i .non)) H (zipD xs ys) := by
  have hl : (zipD xs ys).length = min vs.length ws.length := by rw [zipD_length, h1.length, h2.length]
  refine ⟨by rw [hl]; omega, (fun H => SqX X.K H k1 a vs ∧ SqX X.K H k2 b ws), (fun i H v H' => ∃ T, v = .ref T ∧ H T = none ∧ H' = upd H T (.tup [vs.getD i .non, ws.getD i .non])), by rw [hl]; exact walk_P, fun H1 g => ⟨hK ▸ g1 H1 g, hK ▸ g2 H1 g⟩, fun O' s s' i H1 y H2 d e g ⟨T, ey, hT, eH⟩ => ?_⟩
  subst ey eH
  obtain ⟨dx, dy, rfl, e1, e2⟩ := zipD_get e
  obtain ⟨v, q1, q2⟩ := h1.get e1
  obtain ⟨u, q3, q4⟩ := h2.get e2
  refine ⟨same_new hT, ?_⟩
  rw [getD_of q1, getD_of q3]
  exact rep_pairG hT (rx.rep O' _ _ _ s s' g q2) (rx.rep O' _ _ _ s s' g q4)
theorem src_enum {k : Bool} {a : Addr} {vs : List V} {xs : DS} (hK : c.K = X.K) (rx : Rlx c Rl H) (z : vs.length ≤ sizeLine) (h1 : c.RepL H vs xs) (g1 : ∀ H1, Rl H H1 → SqX c.K H1 k a vs) :
    Src c Rl (ItP (fun H => SqX X.K H k a vs) vs.length (fun i => .int (i : Nat)) (fun i => vs.getD i .non)) H (enumD 0 xs) := by
  have hl : (enumD 0 xs).length = vs.length := by rw [enumD_length, h1.length]
  refine ⟨by rw [hl]; exact z, (fun H => SqX X.K H k a vs), (fun i H v H' => ∃ T, v = .ref T ∧ H T = none ∧ H' = upd H T (.tup [.int (i : Nat), vs.getD i .non])), by rw [hl]; exact walk_P, fun H1 g => hK ▸ g1 H1 g, fun O' s s' i H1 y H2 d e g ⟨T, ey, hT, eH⟩ => ?_⟩
  subst ey eH
  obtain ⟨dx, rfl, e1⟩ := enumD_get e
  obtain ⟨v, q1, q2⟩ := h1.get e1
  refine ⟨same_new hT, ?_⟩
  rw [getD_of q1, Nat.zero_add]
  exact rep_pairG hT (.int _) (rx.rep O' _ _ _ s s' g q2)
theorem pid_zip {ws : WL} (hK : c.K = X.K) (hd : ∀ a, c.Hd a → c.O a) (ms : MonoL ws) (hg : Gl X "zip") (hm : X.mg "zip" = none) (h : PA X [a, b] (tL c (RepTL c) ws)) (hs : starEach [a, b] X.env = (false, eval a X.env) :: starEach [b] X.env) (hpl : (backTo pos (starEach [b] X.env)).any (·.1) = false) :
    PI X (.Tuple elts kk tpos) (.Call (.Name "zip" p) [a, b] [] pos) (tX c (RlG c) (wZip ws)) :=
  PIimp (pi_zipX hg hm h hs hpl) fun σ H R ⟨ρ, st, A, hw⟩ => by
    refine tL_use ms A hw fun xs st1 vs H1 g1 r1 A1 ⟨x, y, us, ws, e, ex, ey, k⟩ => ?_
    subst e
    obtain ⟨v, w, rfl, hv, hw⟩ := rtl2 r1
    obtain ⟨k1, a, vs, rfl, z, q1, q2, q3⟩ := seqG A1.br A1.ok hd hv ex
    obtain ⟨k2, b, ws, rfl, z', q1', q2', q3'⟩ := seqG A1.br A1.ok hd hw ey
    exact ⟨k1, k2, a, b, vs, ws, rfl, hK ▸ q2, hK ▸ q2', k _ H1 g1 A1.br A1.ok (src_zip hK rlxG z q1 q1' q3 q3')⟩
theorem repL1 {vs : List V} {d : D} (h : c.RepL H vs [d]) : ∃ v, vs = [v] ∧ c.Rep H v d := by
  cases h with
  | cons h r => cases r; exact ⟨_, rfl, h⟩
theorem repL2 {vs : List V} {d e : D} (h : c.RepL H vs [d, e]) : ∃ v w, vs = [v, w] ∧ c.Rep H v d ∧ c.Rep H w e := by
  cases h with
  | cons h r =>
    obtain ⟨w, rfl, h2⟩ := repL1 r
    exact ⟨_, _, rfl, h, h2⟩
theorem pjd_zip {ws : WL} (hK : c.K = X.K) (ms : MonoL ws) (hg : Gl X "zip") (hm : X.mg "zip" = none) (h : PA X [a, b] (tL c c.RepL ws)) (hs : starEach [a, b] X.env = (false, eval a X.env) :: starEach [b] X.env) (hpl : (backTo pos (starEach [b] X.env)).any (·.1) = false) :
    PI X (.Tuple elts kk tpos) (.Call (.Name "zip" p) [a, b] [] pos) (tX c (RlK c) (wZip ws)) :=
  PIimp (pi_zipX hg hm h hs hpl) fun σ H R ⟨ρ, st, A, hw⟩ => by
    refine tL_use ms A hw fun xs st1 vs H1 g1 r1 A1 ⟨x, y, us, ws, e, ex, ey, k⟩ => ?_
    subst e
    obtain ⟨v, w, rfl, hv, hw⟩ := repL2 r1
    obtain ⟨k1, a, vs, rfl, z, q1, q2, q3⟩ := seqK A1.ok hv ex
    obtain ⟨k2, b, ws, rfl, z', q1', q2', q3'⟩ := seqK A1.ok hw ey
    exact ⟨k1, k2, a, b, vs, ws, rfl, hK ▸ q2, hK ▸ q2', k _ H1 g1 A1.br A1.ok (src_zip hK rlxK z q1 q1' q3 q3')⟩
theorem pid_enum {ws : WL} (hK : c.K = X.K) (hd : ∀ a, c.Hd a → c.O a) (ms : MonoL ws) (hg : Gl X "enumerate") (hm : X.mg "enumerate" = none) (h : PA X [a] (tL c (RepTL c) ws)) (hs : starEach [a] X.env = (false, eval a X.env) :: starEach [] X.env) :
    PI X (.Tuple elts kk tpos) (.Call (.Name "enumerate" p) [a] [] pos) (tX c (RlG c) (wEnum ws)) :=
  PIimp (pi_enumX hg hm h hs) fun σ H R ⟨ρ, st, A, hw⟩ => by
    refine tL_use ms A hw fun xs st1 vs H1 g1 r1 A1 ⟨x, us, e, ex, k⟩ => ?_
    subst e
    obtain ⟨v, rfl, hv⟩ := rtl1 r1
    obtain ⟨k1, a, vs, rfl, z, q1, q2, q3⟩ := seqG A1.br A1.ok hd hv ex
    exact ⟨k1, a, vs, rfl, hK ▸ q2, k _ H1 g1 A1.br A1.ok (src_enum hK rlxG z q1 q3)⟩
theorem pjd_enum {ws : WL} (hK : c.K = X.K) (ms : MonoL ws) (hg : Gl X "enumerate") (hm : X.mg "enumerate" = none) (h : PA X [a] (tL c c.RepL ws)) (hs : starEach [a] X.env = (false, eval a X.env) :: starEach [] X.env) :
    PI X (.Tuple elts kk tpos) (.Call (.Name "enumerate" p) [a] [] pos) (tX c (RlK c) (wEnum ws)) :=
  PIimp (pi_enumX hg hm h hs) fun σ H R ⟨ρ, st, A, hw⟩ => by
    refine tL_use ms A hw fun xs st1 vs H1 g1 r1 A1 ⟨x, us, e, ex, k⟩ => ?_
    subst e
    obtain ⟨v, rfl, hv⟩ := repL1 r1
    obtain ⟨k1, a, vs, rfl, z, q1, q2, q3⟩ := seqK A1.ok hv ex
    exact ⟨k1, a, vs, rfl, hK ▸ q2, k _ H1 g1 A1.br A1.ok (src_enum hK rlxK z q1 q3)⟩
end

/-! ### targets -/
abbrev WT := D → En → (En → Prop) → Prop
abbrev WTs := DS → En → (En → Prop) → Prop
def wtName (i : Nat) : WT := fun d ρ k => k (ρ.set i (some d))
def wtNil : WTs := fun ds ρ k => ds = [] ∧ k ρ
def wtCons (t : WT) (ts : WTs) : WTs := fun ds ρ k => ∃ d r, ds = d :: r ∧ t d ρ fun ρ' => ts r ρ' k
def wtTup (n : Nat) (ts : WTs) : WT := fun d ρ k => ∃ ds, d = .tup ds ∧ ds.length = n ∧ ts ds ρ k
def MonoT (t : WT) : Prop := ∀ d ρ k k', (∀ ρ', k ρ' → k' ρ') → t d ρ k → t d ρ k'
def MonoTs (t : WTs) : Prop := ∀ d ρ k k', (∀ ρ', k ρ' → k' ρ') → t d ρ k → t d ρ k'
theorem wtName_mono {i : Nat} : MonoT (wtName i) := fun _ _ _ _ f h => f _ h
theorem wtNil_mono : MonoTs wtNil := fun _ _ _ _ f h => ⟨h.1, f _ h.2⟩
theorem wtCons_mono {t : WT} {ts : WTs} (m : MonoT t) (ms : MonoTs ts) : MonoTs (wtCons t ts) := fun _ _ _ _ f ⟨d, r, e, h⟩ => ⟨d, r, e, m _ _ _ _ (fun _ h => ms _ _ _ _ f h) h⟩
theorem wtTup_mono {n : Nat} {ts : WTs} (m : MonoTs ts) : MonoT (wtTup n ts) := fun _ _ _ _ f ⟨ds, e, l, h⟩ => ⟨ds, e, l, m _ _ _ _ f h⟩
structure TgOk (c : Fx) (g : TG) (t : WT) (sl : List Nat) : Prop where
  run : ∀ (O Hd : Addr → Prop) v d σ H ρ st (Q : L2.St → Hp → Prop) k, At (c.wo O Hd) H σ ρ st → (c.wo O Hd).Rep H v d → t d ρ k → (∀ ρ' σ', At (c.wo O Hd) H σ' ρ' st → (∀ vs, (∀ i ∈ sl, i ∈ vs) → wipe σ' vs = wipe σ vs) → (∀ i, i ∉ sl → σ'[i]? = σ[i]? ∧ ρ'[i]? = ρ[i]?) → k ρ' → Q σ' H) → g v σ H Q
structure TgsOk (c : Fx) (g : TGs) (t : WTs) (sl : List Nat) : Prop where
  run : ∀ (O Hd : Addr → Prop) vs ds σ H ρ st (Q : L2.St → Hp → Prop) k, At (c.wo O Hd) H σ ρ st → (c.wo O Hd).RepL H vs ds → t ds ρ k → (∀ ρ' σ', At (c.wo O Hd) H σ' ρ' st → (∀ vs, (∀ i ∈ sl, i ∈ vs) → wipe σ' vs = wipe σ vs) → (∀ i, i ∉ sl → σ'[i]? = σ[i]? ∧ ρ'[i]? = ρ[i]?) → k ρ' → Q σ' H) → g vs σ H Q
section
variable {c : Fx} {σ : L2.St}
theorem wipe_set {i : Nat} {x : Option V} : ∀ {vs : List Nat}, i ∈ vs → wipe (σ.set i x) vs = wipe σ vs
  | v :: vs, h => by
    unfold wipe
    by_cases e : i ∈ vs
    · rw [wipe_set e]
    · have e2 : i = v := (List.mem_cons.mp h).resolve_right e
      subst e2
      have key : ∀ {us : List Nat}, i ∉ us → (wipe (σ.set i x) us) = (wipe σ us).set i x := fun {us} hu => by
        induction us with
        | nil => rfl
        | cons u us ih =>
          have h1 : i ≠ u := fun z => hu (by simp [z])
          have h2 : i ∉ us := fun z => hu (by simp [z])
          show (wipe (σ.set i x) us).set u none = ((wipe σ us).set u none).set i x
          rw [ih h2, List.set_comm _ _ h1]
      rw [key e, List.set_set]
theorem tg_name {i : Nat} (n : i ∉ c.M) : TgOk c (gName i) (wtName i) [i] := ⟨fun O Hd v d σ H ρ st Q k A r h q =>
  q _ _ ⟨A.env.set n r, A.br, A.ok⟩ (fun vs hv => wipe_set (hv i (by simp))) (fun j hj => by
    have : i ≠ j := fun z => hj (by simp [z])
    rw [List.getElem?_set_ne this, List.getElem?_set_ne this]
    exact ⟨rfl, rfl⟩) h⟩
theorem tgs_nil : TgsOk c gNil wtNil [] := ⟨fun O Hd vs ds σ H ρ st Q k A r ⟨e, h⟩ q => by
  subst e
  cases r
  exact ⟨rfl, q _ _ A (fun _ _ => rfl) (fun _ _ => ⟨rfl, rfl⟩) h⟩⟩
theorem tgs_cons {g : TG} {gs : TGs} {t : WT} {ts : WTs} {s1 s2 : List Nat} (h1 : TgOk c g t s1) (h2 : TgsOk c gs ts s2) : TgsOk c (gCons g gs) (wtCons t ts) (s1 ++ s2) := ⟨fun O Hd vs ds σ H ρ st Q k A r ⟨d, ds', e, h⟩ q => by
  subst e
  cases r with
  | cons r rr =>
    refine ⟨_, _, rfl, h1.run O Hd _ _ _ _ _ _ _ _ A r h fun ρ1 σ1 A1 w1 k1 h1 => ?_⟩
    refine h2.run O Hd _ _ _ _ _ _ _ _ A1 rr h1 fun ρ2 σ2 A2 w2 k2 h2 => q ρ2 σ2 A2 (fun vs hv => ?_) (fun i hi => ?_) h2
    · rw [w2 vs fun i hi => hv i (by simp [hi]), w1 vs fun i hi => hv i (by simp [hi])]
    · have a1 := k1 i fun z => hi (by simp [z])
      have a2 := k2 i fun z => hi (by simp [z])
      exact ⟨a2.1.trans a1.1, a2.2.trans a1.2⟩⟩
theorem tg_tup {X : Cx} {gs : TGs} {ts : WTs} {s : List Nat} {n : Nat} (hK : c.K = X.K) (h : TgsOk c gs ts s) : TgOk c (gTup X.K n gs) (wtTup n ts) s := ⟨fun O Hd v d σ H ρ st Q k A r ⟨ds, e, l, hd⟩ q => by
  subst e
  cases r with
  | tup z h1 r1 => exact ⟨_, _, rfl, hK ▸ h1, by rw [r1.length]; exact l, h.run O Hd _ _ _ _ _ _ _ _ A r1 hd q⟩⟩
end

/-! ### comprehensions -/
def tEx (c : Fx) (fr : Bool) (w : W) : TE := fun σ H Q => ∃ O Hd, (∀ a, Hd a → O a) ∧ tE (c.wo O Hd) fr w σ H Q
def tTx (c : Fx) (w : W) : TT := fun σ H Q => ∃ O Hd, (∀ a, Hd a → O a) ∧ tT (c.wo O Hd) w σ H Q
def tXx (c : Fx) (w : WI) : TI := fun σ H R => ∃ O Hd, (∀ a, Hd a → O a) ∧ tX (c.wo O Hd) (RlG (c.wo O Hd)) w σ H R
theorem pe_ex {X : Cx} {c : Fx} {fr : Bool} {w : W} {e : Expr} (h : ∀ O Hd, (∀ a, Hd a → O a) → PE X e (tE (c.wo O Hd) fr w)) : PE X e (tEx c fr w) := ⟨fun pins s σ H Q I ⟨O, Hd, ho, q⟩ => (h O Hd ho).run pins s σ H Q I q⟩
theorem pts_ex {X : Cx} {c : Fx} {w : W} {es : List Expr} (h : ∀ O Hd, (∀ a, Hd a → O a) → PTs X es (tT (c.wo O Hd) w)) : PTs X es (tTx c w) := ⟨fun pins s σ H Q I ⟨O, Hd, ho, q⟩ => (h O Hd ho).run pins s σ H Q I q⟩
theorem pi_ex {X : Cx} {c : Fx} {w : WI} {tg e : Expr} (h : ∀ O Hd, (∀ a, Hd a → O a) → PI X tg e (tX (c.wo O Hd) (RlG (c.wo O Hd)) w)) : PI X tg e (tXx c w) := ⟨fun pins s σ H R I ⟨O, Hd, ho, q⟩ => (h O Hd ho).run pins s σ H R I q⟩
theorem pts_no {X : Cx} {c : Fx} : PTs X [] (tT c (wC (.bl true))) := ⟨fun pins s σ H Q I ⟨ρ, st, A, b, e, q⟩ => by
  cases e
  exact (pts_nil).run pins s σ H Q I (q H (Gr.refl H) A.br)⟩
/-- one thing after another; what is kept is put to the others -/
def wMap (t : WT) (wt we : W) (ρ : En) : DS → DS → (DS → DS → Prop) → Prop
  | [], st, k => k [] st
  | d :: ds, st, k => t d ρ fun ρ1 => wt ρ1 st fun b st1 => ∃ b', b = .bl b' ∧ if b' = true then we ρ1 st1 fun y st2 => wMap t wt we ρ ds st2 fun ys st3 => k (y :: ys) st3 else wMap t wt we ρ ds st1 k
theorem wMap_mono {t : WT} {wt we : W} {ρ : En} (mt : MonoT t) (mw : Mono wt) (me : Mono we) : ∀ (ds st : DS) (k k' : DS → DS → Prop), (∀ d s, k d s → k' d s) → wMap t wt we ρ ds st k → wMap t wt we ρ ds st k'
  | [], _, _, _, f, h => f _ _ h
  | d :: ds, st, k, k', f, h => mt _ _ _ _ (fun ρ1 h => mw _ _ _ _ (fun b st1 ⟨b', e, h⟩ => ⟨b', e, by
      cases b' with
      | true => exact me _ _ _ _ (fun y st2 h => wMap_mono mt mw me ds _ _ _ (fun ys s q => f _ _ q) h) h
      | false => exact wMap_mono mt mw me ds _ _ _ f h⟩) h) h
def wLc (wi : WI) (t : WT) (wt we : W) (own : List Nat) : W := fun ρ st k => wi ρ st fun ds st1 => wMap t wt we (wipeD ρ own) ds st1 fun ys st2 => k (.lst ys) st2
def MonoI (w : WI) : Prop := ∀ ρ st k k', (∀ d s, k d s → k' d s) → w ρ st k → w ρ st k'
theorem wLc_mono {wi : WI} {t : WT} {wt we : W} {own : List Nat} (mi : MonoI wi) (mt : MonoT t) (mw : Mono wt) (me : Mono we) : Mono (wLc wi t wt we own) := fun ρ st k k' f h =>
  mi _ _ _ _ (fun ds st1 h => wMap_mono mt mw me _ _ _ _ (fun ys s q => f _ _ q) h) h
section
variable {X : Cx} {c : Fx} {fr : Bool} {σ : L2.St} {H : Hp} {ρ : En} {st : DS}
theorem tX_use {Rl : Hp → Hp → Prop} {wi : WI} {R : It → Hp → Prop} {k : DS → DS → Prop} (m : MonoI wi) (A : At c H σ ρ st) (h : wi ρ st k) (f : ∀ ds st' J H', Gr c.β H H' → At c H' σ ρ st' → Src c Rl J H' ds → k ds st' → R J H') : tX c Rl wi σ H R :=
  ⟨ρ, st, A, m _ _ _ _ (fun d st' hk J H' g b _ s => f d st' J H' g (A.gr g b) s hk) h⟩
/-- a new list that no one knows -/
theorem At.bar {D : Addr} {vs : List V} (A : At c H σ ρ st) (hD : H D = none) : At (c.wo (fun a => c.O a ∨ a = D) fun a => c.Hd a ∨ a = D) (upd H D (.lst vs)) σ ρ st := by
  have mo : ∀ a, (c.O a ∨ a = D) → c.O a ∨ H a = none := fun a h => h.elim .inl fun e => .inr (e ▸ hD)
  have g : Gr c.β H (upd H D (.lst vs)) := Gr.upd hD
  have bk' : Bk c.β (fun a => c.O a ∨ a = D) (fun a => c.Hd a ∨ a = D) H := fun b e => ⟨⟨.inl (A.br.bk b e).1.1, .inl (A.br.bk b e).1.2⟩, (A.br.bk b e).2⟩
  have ndb : c.β ≠ some D := fun e => by
    obtain ⟨_, vs, q⟩ := A.br.bk D e
    rw [hD] at q; cases q
  have up : ∀ {v d}, c.Rep H v d → QL.Rep c.K c.β (fun a => c.O a ∨ a = D) (upd H D (.lst vs)) v d := fun r => (r.moreO mo).gr bk' g
  have upL : ∀ {v d}, c.RepL H v d → QL.RepL c.K c.β (fun a => c.O a ∨ a = D) (upd H D (.lst vs)) v d := fun r => (r.moreO mo).gr bk' g
  refine ⟨⟨A.env.len, fun i d e n => ?_, fun i d e n => ?_, A.env.inj⟩, ?_, fun a h => ?_⟩
  · obtain ⟨v, q1, q2⟩ := A.env.val i d e n
    exact ⟨v, q1, up q2⟩
  · obtain ⟨a, q1, h1, h2, ds, ws, rfl, h3, z, h4⟩ := A.env.own i d e n
    have na : a ≠ D := ne_of_none h3 hD
    exact ⟨a, q1, .inl h1, fun z => z.elim h2 na, ds, ws, rfl, (by rw [upd_ne na]; exact h3), z, upL h4⟩
  · have b := A.br
    obtain ⟨K, β, M, O, Hd⟩ := c
    cases β with
    | none => exact b
    | some p =>
      obtain ⟨h1, ws, h2, h3, h4⟩ := b
      have np : p ≠ D := fun e => ndb (by rw [e])
      exact ⟨⟨.inl h1.1, .inl h1.2⟩, ws, (by show upd H D _ p = _; rw [upd_ne np]; exact h2), upL h3, h4⟩
  · rcases h with h | h
    · obtain ⟨ws, q⟩ := A.ok a h
      exact ⟨ws, by rw [upd_ne (ne_of_none q hD)]; exact q⟩
    · subst h
      exact ⟨vs, upd_same⟩
theorem At.wipe (A : At c H σ ρ st) (vs : List Nat) : At c H (L2.wipe σ vs) (wipeD ρ vs) st := ⟨A.env.wipe vs, A.br, A.ok⟩
/-- the new list grows by one -/
theorem At.put {O Hd : Addr → Prop} {D : Addr} {vs ws : List V} (A : At (c.wo O Hd) H σ ρ st) (hD : H D = some (.lst vs)) (oD : O D) (nb : c.β ≠ some D) (no : ∀ i d, ρ[i]? = some (some d) → i ∈ c.M → σ[i]? ≠ some (some (.ref D))) : At (c.wo O Hd) (upd H D (.lst ws)) σ ρ st := by
  refine ⟨⟨A.env.len, fun i d e n => ?_, fun i d e n => ?_, A.env.inj⟩, ?_, fun a h => ?_⟩
  · obtain ⟨v, q1, q2⟩ := A.env.val i d e n
    exact ⟨v, q1, q2.wr hD oD⟩
  · obtain ⟨a, q1, h1, h2, ds, xs, rfl, h3, z, h4⟩ := A.env.own i d e n
    have na : a ≠ D := fun z => no i _ e n (z ▸ q1)
    exact ⟨a, q1, h1, h2, ds, xs, rfl, (by rw [upd_ne na]; exact h3), z, h4.wr hD oD⟩
  · have b := A.br
    obtain ⟨K, β, M, O0, Hd0⟩ := c
    cases β with
    | none => exact b
    | some p =>
      obtain ⟨h1, xs, h2, h3, h4⟩ := b
      have np : p ≠ D := fun e => nb (by rw [e])
      exact ⟨h1, xs, (by show upd H D _ p = _; rw [upd_ne np]; exact h2), h3.wr hD oD, h4⟩
  · obtain ⟨xs, q⟩ := A.ok a h
    by_cases e : a = D
    · subst e
      exact ⟨ws, upd_same⟩
    · exact ⟨xs, by rw [upd_ne e]; exact q⟩
theorem wipe_wipe (σ : L2.St) (vs : List Nat) : L2.wipe (L2.wipe σ vs) vs = L2.wipe σ vs := by
  have key : ∀ (us : List Nat), (∀ i ∈ us, i ∈ vs) → L2.wipe (L2.wipe σ vs) us = L2.wipe σ vs := fun us => by
    induction us with
    | nil => intro _; rfl
    | cons u us ih =>
      intro h
      show (L2.wipe (L2.wipe σ vs) us).set u none = L2.wipe σ vs
      rw [ih fun i hi => h i (by simp [hi])]
      refine List.ext_getElem? fun j => ?_
      by_cases e : u = j
      · subst e
        by_cases hl : u < (L2.wipe σ vs).length
        · rw [List.getElem?_set_self hl]
          have : ∀ (ws : List Nat), u ∈ ws → u < σ.length → (L2.wipe σ ws)[u]? = some none := fun ws => by
            induction ws with
            | nil => intro z; cases z
            | cons w ws ihw =>
              intro hw hl
              show ((L2.wipe σ ws).set w none)[u]? = some none
              by_cases e : w = u
              · subst e
                rw [List.getElem?_set_self (by rw [wipe_length]; exact hl)]
              · rw [List.getElem?_set_ne e]
                exact ihw ((List.mem_cons.mp hw).resolve_left fun z => e z.symm) hl
          rw [this vs (h u (by simp)) (by rw [wipe_length] at hl; exact hl)]
        · rw [List.getElem?_eq_none (by simpa using hl), List.getElem?_eq_none (by simpa using hl)]
      · rw [List.getElem?_set_ne e]
  exact key vs fun _ h => h
theorem drop_at {ds : DS} {i : Nat} {d : D} (h : ds[i]? = some d) : ds.drop i = d :: ds.drop (i + 1) := by
  obtain ⟨hl, e⟩ := List.getElem?_eq_some_iff.mp h
  rw [List.drop_eq_getElem_cons hl, e]
/-- a list comprehension's reading, from data -/
theorem lc_go {own : List Nat} {g : TG} {t : WT} {sl : List Nat} {wi : WI} {wt we : W} (hdo : ∀ a, c.Hd a → c.O a) (mi : MonoI wi) (mt : MonoT t) (mw : Mono wt) (me : Mono we) (hgt : TgOk c g t sl) (hsl : ∀ i ∈ sl, i ∈ own) {Q : VK} :
    tE c true (wLc wi t wt we own) σ H Q → tLc (tX c (RlG c) wi) g (tTx c wt) (tEx c fr we) own σ H Q := fun ⟨ρ, st, A, h⟩ => by
    refine tX_use mi A h fun ds st1 J H1 g1 A1 src hk => ?_
    intro D hD
    obtain ⟨zl, G, Y, wk, hG, yy⟩ := src
    generalize hvs : own = vs at *
    have ndb : c.β ≠ some D := fun e => by
      obtain ⟨_, vs, q⟩ := A1.br.bk D e
      rw [hD] at q; cases q
    have mo : ∀ a, (fun a => c.O a ∨ a = D) a → c.O a ∨ H1 a = none := fun a h => h.elim .inl fun e => .inr (e ▸ hD)
    have own0 : ∀ i d, ρ[i]? = some (some d) → i ∈ c.M → σ[i]? ≠ some (some (.ref D)) := fun i d e n z => by
      obtain ⟨a, q1, _, _, ds, ws, _, h3, _⟩ := A1.env.own i d e n
      rw [q1] at z
      injection z with z; injection z with z; injection z with z
      rw [z, hD] at h3; cases h3
    generalize hO : (fun a => c.O a ∨ a = D) = O' at *
    generalize hH : (fun a => c.Hd a ∨ a = D) = Hd' at *
    have oD : O' D := by rw [← hO]; exact .inr rfl
    have lo : ∀ a, c.O a → O' a := fun a h => by rw [← hO]; exact .inl h
    have hoh : ∀ a, Hd' a → O' a := fun a h => by
      rw [← hH] at h; rw [← hO]
      exact h.elim (fun z => .inl (hdo a z)) .inr
    have cr : ∀ H2, Gr c.β H1 H2 → RlG c H1 H2 := fun H2 g => ⟨fun b o e n => g b o e fun z => n (A1.br.bk b z).1.2, A1.ok, hdo⟩
    refine lc_it wk (fun i H2 => ∃ acc ys st2, H2 D = some (.lst acc) ∧ acc.length ≤ i ∧ QL.RepL c.K c.β O' H2 acc ys ∧ At (c.wo O' Hd') H2 σ ρ st2 ∧ Gr c.β H1 H2 ∧
        wMap t wt we (wipeD ρ vs) (ds.drop i) st2 (fun zs s => ∀ v H', Gr c.β H H' → c.BrR H' s → rkE c true H H' v (.lst (ys ++ zs)) → Q v H'))
      ⟨[], [], st1, upd_same, Nat.le_refl _, .nil, by rw [← hO, ← hH]; exact A1.bar hD, Gr.upd hD, by simpa using hk⟩ (fun i H2 _ ⟨_, _, _, _, _, _, _, g2, _⟩ => hG H2 (cr H2 g2)) ?_ ?_
    · intro i x H2 H3 hi ⟨acc, ys, st2, hDa, hl, ra, A3, g2, hm⟩ hy
      have hd : ds[i]? = some ds[i] := List.getElem?_eq_getElem hi
      obtain ⟨sm, rx⟩ := yy O' lo mo i H2 x H3 _ hd (cr H2 g2) hy
      rw [drop_at hd] at hm
      have g3 : Gr c.β H2 H3 := Gr.of sm
      have A4 : At (c.wo O' Hd') H3 σ ρ st2 := A3.gr g3 (br_same (c := c.wo O' Hd') sm A3.br)
      refine hgt.run O' Hd' x _ _ H3 _ st2 _ _ (A4.wipe vs) rx hm fun ρ1 σ1 A5 w5 _ h5 => ?_
      refine ⟨by rw [w5 vs hsl, wipe_wipe], O', Hd', hoh, tT_use mw A5 h5 fun b st3 ⟨b', e, h6⟩ => ⟨b', e, fun H4 g4 A6 => ?_⟩⟩
      have hD4 : H4 D = some (.lst acc) := g4 _ _ (sm _ _ hDa) ndb
      have A8 : At (c.wo O' Hd') H4 σ ρ st3 := A4.gr g4 A6.br
      have ra4 : QL.RepL c.K c.β O' H4 acc ys := (ra.gr A3.br.bk g3).gr A4.br.bk g4
      cases b' with
      | false => exact ⟨acc, ys, st3, hD4, Nat.le_succ_of_le hl, ra4, A8, (g2.trans g3).trans g4, h6⟩
      | true =>
        refine ⟨O', Hd', hoh, tG_use me A6 h6 fun y st4 v H5 g5 r5 A7 h7 => ?_⟩
        have hD5 : H5 D = some (.lst acc) := g5 _ _ hD4 ndb
        have A9 : At (c.wo O' Hd') H5 σ ρ st4 := A8.gr g5 A7.br
        refine ⟨acc, hD5, by omega, acc ++ [v], ys ++ [y], st4, upd_same, by rw [List.length_append]; simp; omega, ?_, A9.put hD5 oD ndb own0, ?_, ?_⟩
        · exact ((ra4.gr A8.br.bk g5).append (.cons r5.1 .nil)).wr hD5 oD
        · intro b o e n
          have nb : b ≠ D := ne_of_none e hD
          rw [upd_ne nb]
          exact g5 _ _ (g4 _ _ (g3 _ _ (g2 _ _ e n) n) n) n
        · exact wMap_mono mt mw me _ _ _ _ (fun zs s q => by rw [List.append_assoc]; exact q) h7
    · intro H2 ⟨acc, ys, st2, hDa, hl, ra, A3, g2, hm⟩
      rw [List.drop_length] at hm
      have hm : ∀ v H', Gr c.β H H' → c.BrR H' st2 → rkE c true H H' v (.lst (ys ++ [])) → Q v H' := hm
      rw [List.append_nil] at hm
      have bl : c.BrR H2 st2 := by
        have b := A3.br
        obtain ⟨K, β, M, O, Hd⟩ := c
        cases β with
        | none => exact b
        | some p =>
          obtain ⟨h1, ws, h2, h3, h4⟩ := b
          exact ⟨(A1.br.bk p rfl).1, ws, h2, h3.lessO lo, h4⟩
      have rl : c.RepL H2 acc ys := ra.lessO lo
      refine hm (.ref D) H2 (g1.trans g2) bl ⟨.lst (by omega) (A1.ok.no hD) hDa rl, fun _ ds' e => ?_⟩
      cases e
      refine ⟨D, acc, rfl, ?_, hDa, by omega, by rw [hO]; exact ra⟩
      cases q : H D with
      | none => rfl
      | some o => rw [g1 D o q ndb] at hD; cases hD
/-- [elt for tg in iter if ..] -/
theorem pd_lc {tg iter elt : Expr} {ifs : List Expr} {scope : Scope} {own : List (Str × Nat)} {pos : Pos} {g : TG} {t : WT} {sl : List Nat} {wi : WI} {wt we : W} (hc : X.calm = true) (hN : X.N.Nodup) (hdo : ∀ a, c.Hd a → c.O a) (mi : MonoI wi) (mt : MonoT t) (mw : Mono wt) (me : Mono we)
    (hi : PI X tg iter (tX c (RlG c) wi)) (ok : BlkOk X.N X.env.scope scope own) (hg : ∀ (s : Shared) (H : Hp) (C : Addr) (cl : List (Str × Addr)) (fp : List Addr), PG (X.blk s H scope (compEnvC scope cl C X.env) fp) tg g)
    (hgt : TgOk c g t sl) (hsl : ∀ i ∈ sl, i ∈ own.map (·.2)) (ht : ∀ (s : Shared) (H : Hp) (C : Addr) (cl : List (Str × Addr)) (fp : List Addr) (O Hd : Addr → Prop), (∀ a, Hd a → O a) → PTs (X.blk s H scope (compEnvC scope cl C X.env) fp) ifs (tT (c.wo O Hd) wt))
    (he : ∀ (s : Shared) (H : Hp) (C : Addr) (cl : List (Str × Addr)) (fp : List Addr) (O Hd : Addr → Prop), (∀ a, Hd a → O a) → PE (X.blk s H scope (compEnvC scope cl C X.env) fp) elt (tE (c.wo O Hd) fr we)) (hs : ∀ x, foldedSetIterable iter X.env x = pure x) :
    PE X (.ListComp elt [⟨tg, iter, ifs, 0⟩] scope pos) (tE c true (wLc wi t wt we (own.map (·.2)))) :=
  PEimp (L2.pe_lc hc hN hi ok hg (fun s H C cl fp => pts_ex (ht s H C cl fp)) (fun s H C cl fp => pe_ex (he s H C cl fp)) hs) fun σ H Q q => lc_go hdo mi mt mw me hgt hsl q
end
end QL
namespace QL
open PySem PySem.Spec PyProof.Rows L2
/-! ### two clauses -/
def wMap2 (B : Nat) (t : WT) (wt : W) (wi1 : WI) (t1 : WT) (wt1 we : W) (vs1 : List Nat) (ρ : En) : DS → DS → (DS → DS → Prop) → Prop
  | [], st, k => k [] st
  | d :: ds, st, k => t d ρ fun ρ1 => wt ρ1 st fun b st1 => ∃ b', b = .bl b' ∧ if b' = true then wi1 ρ1 st1 fun es st2 => es.length ≤ B ∧ wMap t1 wt1 we (wipeD ρ1 vs1) es st2 fun ys st3 => wMap2 B t wt wi1 t1 wt1 we vs1 ρ ds st3 fun zs st4 => k (ys ++ zs) st4
      else wMap2 B t wt wi1 t1 wt1 we vs1 ρ ds st1 k
theorem wMap2_mono {B : Nat} {t t1 : WT} {wt wt1 we : W} {wi1 : WI} {vs1 : List Nat} {ρ : En} (mt : MonoT t) (mw : Mono wt) (mi1 : MonoI wi1) (mt1 : MonoT t1) (mw1 : Mono wt1) (me : Mono we) : ∀ (ds st : DS) (k k' : DS → DS → Prop), (∀ d s, k d s → k' d s) → wMap2 B t wt wi1 t1 wt1 we vs1 ρ ds st k → wMap2 B t wt wi1 t1 wt1 we vs1 ρ ds st k'
  | [], _, _, _, f, h => f _ _ h
  | d :: ds, st, k, k', f, h => mt _ _ _ _ (fun ρ1 h => mw _ _ _ _ (fun b st1 ⟨b', e, h⟩ => ⟨b', e, by
      cases b' with
      | true => exact mi1 _ _ _ _ (fun es st2 h => ⟨h.1, wMap_mono mt1 mw1 me _ _ _ _ (fun ys st3 h => wMap2_mono mt mw mi1 mt1 mw1 me ds _ _ _ (fun zs s q => f _ _ q) h) h.2⟩) h
      | false => exact wMap2_mono mt mw mi1 mt1 mw1 me ds _ _ _ f h⟩) h) h
def wLc2 (wi : WI) (t : WT) (wt : W) (wi1 : WI) (t1 : WT) (wt1 we : W) (own vs1 : List Nat) : W := fun ρ st k => wi ρ st fun ds st1 => ∃ B : Nat, ds.length * B ≤ sizeLine ∧ wMap2 B t wt wi1 t1 wt1 we vs1 (wipeD ρ own) ds st1 fun ys st2 => k (.lst ys) st2
theorem wLc2_mono {wi wi1 : WI} {t t1 : WT} {wt wt1 we : W} {own vs1 : List Nat} (mi : MonoI wi) (mt : MonoT t) (mw : Mono wt) (mi1 : MonoI wi1) (mt1 : MonoT t1) (mw1 : Mono wt1) (me : Mono we) : Mono (wLc2 wi t wt wi1 t1 wt1 we own vs1) := fun ρ st k k' f h =>
  mi _ _ _ _ (fun ds st1 ⟨B, z, h⟩ => ⟨B, z, wMap2_mono mt mw mi1 mt1 mw1 me _ _ _ _ (fun ys s q => f _ _ q) h⟩) h
section
variable {X : Cx} {c : Fx} {fr : Bool} {σ : L2.St} {H : Hp} {ρ : En} {st : DS}
/-- a loop over what is walked -/
theorem walk_loop {J : It} {n : Nat} {G : Hp → Prop} {Y : Nat → Hp → V → Hp → Prop} (w : Walk J n G Y) {Body : (Hp → Prop) → V → Hp → Prop} {Fin : Hp → Prop} {H0 : Hp} (Pv : Nat → Hp → Prop) (h0 : Pv 0 H0) (hG : ∀ i H, i ≤ n → Pv i H → G H)
    (hs : ∀ i x H H', i < n → Pv i H → Y i H x H' → Body (Pv (i + 1)) x H') (hd : ∀ H, Pv n H → Fin H) :
    ∃ W : Nat → Nat → Hp → Prop, (∃ m, W 0 m H0) ∧ ∀ i m H, W i m H → (J.stop i H ∧ Fin H) ∨ (J.go i H ∧ ∃ Nx : Hp → Prop, (∀ H', Nx H' → ∃ m', m' < m ∧ W (i + 1) m' H') ∧ ∀ x H', J.yld i H x H' → Body Nx x H') := by
  refine ⟨fun i m H => m = n - i ∧ i ≤ n ∧ Pv i H, ⟨n, by simp, Nat.zero_le _, h0⟩, ?_⟩
  rintro i m H ⟨rfl, hi, p⟩
  have q := hG i H hi p
  rcases Nat.lt_or_ge i n with hlt | hge
  · exact .inr ⟨w.goes i H hlt q, Pv (i + 1), fun H' p' => ⟨n - (i + 1), by omega, rfl, hlt, p'⟩, fun x H' y => hs i x H H' hlt p (w.yields i H x H' hlt q y)⟩
  · obtain rfl : i = n := by omega
    exact .inl ⟨w.stops H q, hd H p⟩
theorem At.noD {O Hd : Addr → Prop} {D : Addr} (A : At (c.wo O Hd) H σ ρ st) (h : Hd D) : ∀ i d, ρ[i]? = some (some d) → i ∈ c.M → σ[i]? ≠ some (some (.ref D)) := fun i d e n z => by
  obtain ⟨a, q1, _, h2, _⟩ := A.env.own i d e n
  rw [q1] at z
  injection z with z; injection z with z; injection z with z
  exact h2 (z ▸ h)
theorem lc2_go {own vs1 : List Nat} {g g1 : TG} {t t1 : WT} {sl sl1 : List Nat} {wi wi1 : WI} {wt wt1 we : W} (hdo : ∀ a, c.Hd a → c.O a) (mi : MonoI wi) (mt : MonoT t) (mw : Mono wt) (mi1 : MonoI wi1) (mt1 : MonoT t1) (mw1 : Mono wt1) (me : Mono we)
    (hgt : TgOk c g t sl) (hsl : ∀ i ∈ sl, i ∈ own) (hgt1 : TgOk c g1 t1 sl1) (hsl1 : ∀ i ∈ sl1, i ∈ vs1) {Q : VK} :
    tE c true (wLc2 wi t wt wi1 t1 wt1 we own vs1) σ H Q → tLc2 (tX c (RlG c) wi) g (tTx c wt) (tXx c wi1) g1 (tTx c wt1) (tEx c fr we) own vs1 σ H Q := fun ⟨ρ, st, A, h⟩ => by
    refine tX_use mi A h fun ds st1 J H1 g1 A1 src hk => ?_
    intro D hD
    obtain ⟨zl, G, Y, wk, hG, yy⟩ := src
    obtain ⟨B, hB, hk⟩ := hk
    generalize hvs : own = vs at *
    have ndb : c.β ≠ some D := fun e => by
      obtain ⟨_, vs, q⟩ := A1.br.bk D e
      rw [hD] at q; cases q
    generalize hO : (fun a => c.O a ∨ a = D) = O' at *
    generalize hH : (fun a => c.Hd a ∨ a = D) = Hd' at *
    have oD : O' D := by rw [← hO]; exact .inr rfl
    have dD : Hd' D := by rw [← hH]; exact .inr rfl
    have lo : ∀ a, c.O a → O' a := fun a h => by rw [← hO]; exact .inl h
    have mo' : ∀ a, O' a → c.O a ∨ H1 a = none := fun a h => by
      rw [← hO] at h
      exact h.elim .inl fun e => .inr (e ▸ hD)
    have hoh : ∀ a, Hd' a → O' a := fun a h => by
      rw [← hH] at h; rw [← hO]
      exact h.elim (fun z => .inl (hdo a z)) .inr
    have cr : ∀ H2, Gr c.β H1 H2 → RlG c H1 H2 := fun H2 g => ⟨fun b o e n => g b o e fun z => n (A1.br.bk b z).1.2, A1.ok, hdo⟩
    let S (n : Nat) (H2 : Hp) (acc : List V) (ys st2 : DS) : Prop := H2 D = some (.lst acc) ∧ acc.length ≤ n ∧ QL.RepL c.K c.β O' H2 acc ys ∧ At (c.wo O' Hd') H2 σ ρ st2 ∧ Gr c.β H1 H2
    have S_gr : ∀ {n H2 H3 acc ys st2 st3}, S n H2 acc ys st2 → Gr c.β H2 H3 → QL.BrR c.K c.β O' H3 Hd' st3 → S n H3 acc ys st3 := fun {n H2 H3 acc ys st2 st3} ⟨a1, a2, a3, a4, a5⟩ g b =>
      ⟨g _ _ a1 ndb, a2, a3.gr a4.br.bk g, a4.gr g b, a5.trans g⟩
    have S_put : ∀ {n H2 acc ys st2 v y}, S n H2 acc ys st2 → QL.Rep c.K c.β O' H2 v y → S (n + 1) (upd H2 D (.lst (acc ++ [v]))) (acc ++ [v]) (ys ++ [y]) st2 := fun {n H2 acc ys st2 v y} ⟨a1, a2, a3, a4, a5⟩ r =>
      ⟨upd_same, by rw [List.length_append]; simp; omega, (a3.append (.cons r .nil)).wr a1 oD, a4.put a1 oD ndb (a4.noD dD), fun b o e n => by rw [upd_ne (ne_of_none e hD)]; exact a5 _ _ e n⟩
    let K : DS → DS → DS → Prop := fun ys zs s => ∀ v H', Gr c.β H H' → c.BrR H' s → rkE c true H H' v (.lst (ys ++ zs)) → Q v H'
    refine walk_loop wk (fun i H2 => ∃ acc ys st2, S (i * B) H2 acc ys st2 ∧ wMap2 B t wt wi1 t1 wt1 we vs1 (wipeD ρ vs) (ds.drop i) st2 (K ys))
      ⟨[], [], st1, ⟨upd_same, Nat.zero_le _, .nil, by rw [← hO, ← hH]; exact A1.bar hD, Gr.upd hD⟩, by simpa [K] using hk⟩ (fun i H2 _ ⟨_, _, _, s2, _⟩ => hG H2 (cr H2 s2.2.2.2.2)) ?_ ?_
    · intro i x H2 H3 hi ⟨acc, ys, st2, s2, hm⟩ hy
      have hd : ds[i]? = some ds[i] := List.getElem?_eq_getElem hi
      obtain ⟨sm, rx⟩ := yy O' lo mo' i H2 x H3 _ hd (cr H2 s2.2.2.2.2) hy
      rw [drop_at hd] at hm
      have s3 := S_gr s2 (Gr.of sm) (br_same (c := c.wo O' Hd') sm s2.2.2.2.1.br)
      refine hgt.run O' Hd' x _ _ H3 _ st2 _ _ (s3.2.2.2.1.wipe vs) rx hm fun ρ1 σ1 A5 w5 _ h5 => ?_
      refine ⟨by rw [w5 vs hsl, wipe_wipe], O', Hd', hoh, tT_use mw A5 h5 fun b st3 ⟨b', e, h6⟩ => ⟨b', e, fun H4 g4 A6 => ?_⟩⟩
      have s4 := S_gr s3 g4 A6.br
      have hBi : (i + 1) * B ≤ ds.length * B := Nat.mul_le_mul_right B hi
      cases b' with
      | false =>
        obtain ⟨a1, a2, a3⟩ := s4
        exact ⟨acc, ys, st3, ⟨a1, by rw [Nat.add_mul]; omega, a3⟩, h6⟩
      | true =>
        refine ⟨O', Hd', hoh, tX_use mi1 A6 h6 fun es st4 J1 H5 g5 A7 src1 ⟨hes, h7⟩ => ?_⟩
        have s5 := S_gr s4 g5 A7.br
        obtain ⟨zl1, G1, Y1, wk1, hG1, yy1⟩ := src1
        have cr1 : ∀ H6, Kp Hd' H5 H6 → RlG (c.wo O' Hd') H5 H6 := fun H6 g => ⟨g, A7.ok, hoh⟩
        have kp1 : ∀ {H6 H7 : Hp}, Bk c.β O' Hd' H6 → Gr c.β H6 H7 → Kp Hd' H6 H7 := fun bk g b o e n => g b o e fun z => n (bk b z).1.2
        refine walk_loop wk1 (fun j H6 => ∃ acc ys' st6, S (i * B + j) H6 acc ys' st6 ∧ Kp Hd' H5 H6 ∧ At (c.wo O' Hd') H6 σ1 ρ1 st6 ∧
            wMap t1 wt1 we (wipeD ρ1 vs1) (es.drop j) st6 (fun zs st7 => wMap2 B t wt wi1 t1 wt1 we vs1 (wipeD ρ vs) (ds.drop (i + 1)) st7 (K (ys' ++ zs))))
          ⟨acc, ys, st4, s5, Kp.refl H5, A7, wMap_mono mt1 mw1 me _ _ _ _ (fun zs s q => wMap2_mono mt mw mi1 mt1 mw1 me _ _ _ _ (fun ws s' q' => by show K _ _ _; unfold K; rw [List.append_assoc]; exact q') q) h7⟩
          (fun j H6 _ ⟨_, _, _, s6, g6, _⟩ => hG1 H6 (cr1 H6 g6)) ?_ ?_
        · intro j y H6 H7 hj ⟨acc', ys', st6, s6, g6, A8, hm6⟩ hy1
          have hd1 : es[j]? = some es[j] := List.getElem?_eq_getElem hj
          obtain ⟨sm1, rx1⟩ := yy1 O' (fun a h => h) (fun a h => .inl h) j H6 y H7 _ hd1 (cr1 H6 g6) hy1
          rw [drop_at hd1] at hm6
          have b7 := br_same (c := c.wo O' Hd') sm1 s6.2.2.2.1.br
          have s7 := S_gr s6 (Gr.of sm1) b7
          have A9 : At (c.wo O' Hd') H7 σ1 ρ1 st6 := A8.gr (Gr.of sm1) b7
          refine hgt1.run O' Hd' y _ _ H7 _ st6 _ _ (A9.wipe vs1) rx1 hm6 fun ρ2 σ2 A10 w10 _ h10 => ?_
          refine ⟨by rw [w10 vs1 hsl1, wipe_wipe], O', Hd', hoh, tT_use mw1 A10 h10 fun b st8 ⟨b'', e, h11⟩ => ⟨b'', e, fun H8 g8 A11 => ?_⟩⟩
          have s8 := S_gr s7 g8 A11.br
          have A12 : At (c.wo O' Hd') H8 σ1 ρ1 st8 := A9.gr g8 A11.br
          have k8 : Kp Hd' H5 H8 := (g6.trans (kp1 A8.br.bk (Gr.of sm1))).trans (kp1 A9.br.bk g8)
          cases b'' with
          | false =>
            obtain ⟨a1, a2, a3⟩ := s8
            exact ⟨acc', ys', st8, ⟨a1, Nat.le_succ_of_le a2, a3⟩, k8, A12, h11⟩
          | true =>
            refine ⟨O', Hd', hoh, tG_use me A11 h11 fun z st9 v H9 g9 r9 A13 h12 => ?_⟩
            have s9 := S_gr s8 g9 A13.br
            have A14 : At (c.wo O' Hd') H9 σ1 ρ1 st9 := A12.gr g9 A13.br
            refine ⟨acc', s9.1, ?_, acc' ++ [v], ys' ++ [z], st9, S_put s9 r9.1, ?_, A14.put s9.1 oD ndb (A14.noD dD), ?_⟩
            · have a2 := s9.2.1
              have a4 : (i + 1) * B = i * B + B := by rw [Nat.add_mul, Nat.one_mul]
              omega
            · intro b o e n
              have nb : b ≠ D := fun z => n (by rw [z]; exact dD)
              rw [upd_ne nb]
              exact kp1 A12.br.bk g9 b o (k8 b o e n) n
            · exact wMap_mono mt1 mw1 me _ _ _ _ (fun zs s q => by rw [List.append_assoc]; exact q) h12
        · intro H6 ⟨acc', ys', st6, s6, g6, A8, hm6⟩
          rw [List.drop_length] at hm6
          have hm6 : wMap2 B t wt wi1 t1 wt1 we vs1 (wipeD ρ vs) (ds.drop (i + 1)) st6 (K (ys' ++ [])) := hm6
          rw [List.append_nil] at hm6
          obtain ⟨a1, a2, a3⟩ := s6
          exact ⟨acc', ys', st6, ⟨a1, by rw [Nat.add_mul, Nat.one_mul]; omega, a3⟩, hm6⟩
    · intro H2 ⟨acc, ys, st2, ⟨hDa, hl, ra, A3, g2⟩, hm⟩
      rw [List.drop_length] at hm
      have hm : ∀ v H', Gr c.β H H' → c.BrR H' st2 → rkE c true H H' v (.lst (ys ++ [])) → Q v H' := hm
      rw [List.append_nil] at hm
      have bl : c.BrR H2 st2 := by
        have b := A3.br
        obtain ⟨K, β, M, O, Hd⟩ := c
        cases β with
        | none => exact b
        | some p =>
          obtain ⟨h1, ws, h2, h3, h4⟩ := b
          exact ⟨(A1.br.bk p rfl).1, ws, h2, h3.lessO lo, h4⟩
      have rl : c.RepL H2 acc ys := ra.lessO lo
      have hz : acc.length ≤ sizeLine := Nat.le_trans hl hB
      refine hm (.ref D) H2 (g1.trans g2) bl ⟨.lst hz (A1.ok.no hD) hDa rl, fun _ ds' e => ?_⟩
      cases e
      refine ⟨D, acc, rfl, ?_, hDa, hz, by rw [hO]; exact ra⟩
      cases q : H D with
      | none => rfl
      | some o => rw [g1 D o q ndb] at hD; cases hD
theorem pd_lc2 {tg iter tg1 iter1 elt : Expr} {ifs ifs1 : List Expr} {scope : Scope} {own : List (Str × Nat)} {vs1 : List Nat} {pos : Pos} {g g1 : TG} {t t1 : WT} {sl sl1 : List Nat} {wi wi1 : WI} {wt wt1 we : W} (hc : X.calm = true) (hN : X.N.Nodup) (hdo : ∀ a, c.Hd a → c.O a)
    (mi : MonoI wi) (mt : MonoT t) (mw : Mono wt) (mi1 : MonoI wi1) (mt1 : MonoT t1) (mw1 : Mono wt1) (me : Mono we)
    (hi : PI X tg iter (tX c (RlG c) wi)) (ok : BlkOk X.N X.env.scope scope own) (hv : ∀ i ∈ vs1, i ∈ own.map (·.2))
    (hg : ∀ (s : Shared) (H : Hp) (C : Addr) (cl : List (Str × Addr)) (fp : List Addr), PG (X.blk s H scope (compEnvC scope cl C X.env) fp) tg g) (hgt : TgOk c g t sl) (hsl : ∀ i ∈ sl, i ∈ own.map (·.2))
    (ht : ∀ (s : Shared) (H : Hp) (C : Addr) (cl : List (Str × Addr)) (fp : List Addr) (O Hd : Addr → Prop), (∀ a, Hd a → O a) → PTs (X.blk s H scope (compEnvC scope cl C X.env) fp) ifs (tT (c.wo O Hd) wt))
    (hi1 : ∀ (s : Shared) (H : Hp) (C : Addr) (cl : List (Str × Addr)) (fp : List Addr) (O Hd : Addr → Prop), (∀ a, Hd a → O a) → PI (X.blk s H scope (compEnvC scope cl C X.env) fp) tg1 iter1 (tX (c.wo O Hd) (RlG (c.wo O Hd)) wi1))
    (hg1 : ∀ (s : Shared) (H : Hp) (C : Addr) (cl : List (Str × Addr)) (fp : List Addr), PG (X.blk s H scope (compEnvC scope cl C X.env) fp) tg1 g1) (hgt1 : TgOk c g1 t1 sl1) (hsl1 : ∀ i ∈ sl1, i ∈ vs1)
    (ht1 : ∀ (s : Shared) (H : Hp) (C : Addr) (cl : List (Str × Addr)) (fp : List Addr) (O Hd : Addr → Prop), (∀ a, Hd a → O a) → PTs (X.blk s H scope (compEnvC scope cl C X.env) fp) ifs1 (tT (c.wo O Hd) wt1))
    (he : ∀ (s : Shared) (H : Hp) (C : Addr) (cl : List (Str × Addr)) (fp : List Addr) (O Hd : Addr → Prop), (∀ a, Hd a → O a) → PE (X.blk s H scope (compEnvC scope cl C X.env) fp) elt (tE (c.wo O Hd) fr we))
    (hs : ∀ x, foldedSetIterable iter X.env x = pure x) (hs1 : ∀ env x, foldedSetIterable iter1 env x = pure x) :
    PE X (.ListComp elt [⟨tg, iter, ifs, 0⟩, ⟨tg1, iter1, ifs1, 0⟩] scope pos) (tE c true (wLc2 wi t wt wi1 t1 wt1 we (own.map (·.2)) vs1)) :=
  PEimp (L2.pe_lc2 hc hN hi ok hv hg (fun s H C cl fp => pts_ex (ht s H C cl fp)) (fun s H C cl fp => pi_ex (hi1 s H C cl fp)) hg1 (fun s H C cl fp => pts_ex (ht1 s H C cl fp)) (fun s H C cl fp => pe_ex (he s H C cl fp)) hs hs1) fun σ H Q q => lc2_go hdo mi mt mw mi1 mt1 mw1 me hgt hsl hgt1 hsl1 q
end
end QL
namespace QL
open PySem PySem.Spec PyProof.Rows L2
/-! ### slices -/
abbrev WO := En → DS → (Option Int → DS → Prop) → Prop
def MonoO (w : WO) : Prop := ∀ ρ st k k', (∀ d s, k d s → k' d s) → w ρ st k → w ρ st k'
def woN : WO := fun _ st k => k none st
def woS (w : W) : WO := fun ρ st k => w ρ st fun x st1 => ∃ i, x = .int i ∧ k (some i) st1
theorem woN_mono : MonoO woN := fun _ _ _ _ f h => f _ _ h
theorem woS_mono {w : W} (m : Mono w) : MonoO (woS w) := fun _ _ _ _ f h => m _ _ _ _ (fun _ _ ⟨i, e, q⟩ => ⟨i, e, f _ _ q⟩) h
def cutD {α : Type} (xs : List α) (lo hi : Option Int) : List α := (xs.drop (HT.sIx xs.length 0 lo)).take (HT.sIx xs.length xs.length hi - HT.sIx xs.length 0 lo)
def slP : D → Option Int → Option Int → (D → Prop) → Prop
  | .tup xs, lo, hi, k => k (.tup (cutD xs lo hi))
  | .lst xs, lo, hi, k => k (.lst (cutD xs lo hi))
  | .scr xs, lo, hi, k => k (.lst ((cutD xs lo hi).map D.int))
  | .str z, lo, hi, k => k (.str (cutS z lo hi))
  | _, _, _, _ => False
theorem slP_mono (d : D) (lo hi : Option Int) (k k' : D → Prop) (f : ∀ d, k d → k' d) (h : slP d lo hi k) : slP d lo hi k' := by
  cases d <;> first | exact f _ h | exact False.elim h
def wSl (wa : W) (lo hi : WO) : W := fun ρ st k => wa ρ st fun x st1 => lo ρ st1 fun l st2 => hi ρ st2 fun h st3 => slP x l h fun z => k z st3
theorem wSl_mono {wa : W} {lo hi : WO} (m : Mono wa) (ml : MonoO lo) (mh : MonoO hi) : Mono (wSl wa lo hi) := fun _ _ _ _ f h =>
  m _ _ _ _ (fun _ _ h => ml _ _ _ _ (fun _ _ h => mh _ _ _ _ (fun _ _ h => slP_mono _ _ _ _ _ (fun _ q => f _ _ q) h) h) h) h
def tOO (c : Fx) (w : WO) : TO := fun σ H Q => ∃ ρ st, At c H σ ρ st ∧ w ρ st (fun o st' => ∀ H', Gr c.β H H' → c.BrR H' st' → Q o H')
section
variable {X : Cx} {c : Fx} {fr : Bool} {σ : L2.St} {H : Hp} {ρ : En} {st : DS} {w wa wb : W} {e : Expr}
theorem POimp {o : Option Expr} {t t' : TO} (h : PO X o t) (f : ∀ σ H Q, t' σ H Q → t σ H Q) : PO X o t' := ⟨fun pins s σ H Q I q => h.run pins s σ H Q I (f _ _ _ q)⟩
theorem pod_none : PO X none (tOO c woN) := POimp po_none fun σ H Q ⟨ρ, st, A, h⟩ => h H (Gr.refl H) A.br
theorem pod_some (m : Mono w) (h : PE X e (tR c w)) : PO X (some e) (tOO c (woS w)) := POimp (po_some h) fun σ H Q ⟨ρ, st, A, h⟩ =>
  tG_use m A h fun x st1 v H1 g1 r1 A1 ⟨i, e, q⟩ => by
    subst e
    exact ⟨i, repT_int r1, q H1 g1 A1.br⟩
theorem tOO_use {wo : WO} {Q : Option Int → Hp → Prop} {k : Option Int → DS → Prop} (m : MonoO wo) (A : At c H σ ρ st) (h : wo ρ st k) (f : ∀ o st' H', Gr c.β H H' → At c H' σ ρ st' → k o st' → Q o H') : tOO c wo σ H Q :=
  ⟨ρ, st, A, m _ _ _ _ (fun o st' hk H' g b => f o st' H' g (A.gr g b) hk) h⟩
theorem cut_rep {vs : List V} {ds : DS} (r : c.RepL H vs ds) (lo hi : Option Int) : c.RepL H (cutV vs lo hi) (cutD ds lo hi) := by
  unfold cutV cutD
  rw [r.length]
  exact (r.drop _).take _
theorem cutD_len {α : Type} (xs : List α) (lo hi : Option Int) : (cutD xs lo hi).length ≤ xs.length := by
  unfold cutD
  rw [List.length_take, List.length_drop]
  omega
theorem cut_whole {α : Type} {xs : List α} {lo hi : Option Int} (h1 : HT.sIx xs.length 0 lo = 0) (h2 : HT.sIx xs.length xs.length hi = xs.length) : cutD xs lo hi = xs := by
  unfold cutD
  rw [h1, h2]
  simp
theorem cut_map {α β : Type} (f : α → β) (xs : List α) (lo hi : Option Int) : cutD (xs.map f) lo hi = (cutD xs lo hi).map f := by
  unfold cutD
  rw [List.length_map, ← List.map_drop, ← List.map_take]
theorem repL_intsV (ns : List Int) : c.RepL H (ns.map V.int) (ns.map D.int) := by
  induction ns with
  | nil => exact .nil
  | cons n ns ih => exact .cons (.int n) ih
theorem pd_sl {lo hi : Option Expr} {wl wh : WO} {p2 pos : Pos} (hK : c.K = X.K) (m : Mono wa) (ml : MonoO wl) (mh : MonoO wh) (h : PE X e (tR c wa)) (hl : PO X lo (tOO c wl)) (hh : PO X hi (tOO c wh)) : PE X (.Subscript e (.Slice lo hi none p2) pos) (tE c true (wSl wa wl wh)) :=
  PEimp (pe_slice (((sl_tupA (X := X)).or sl_list).or sl_str) h hl hh) fun σ H Q ⟨ρ, st, A, hw⟩ => by
    refine tG_use m A hw fun x st1 v H1 g1 r1 A1 h1 => ?_
    refine tOO_use ml A1 h1 fun l st2 H2 g2 A2 h2 => ?_
    refine tOO_use mh A2 h2 fun u st3 H3 g3 A3 h3 => ?_
    have r3 : c.RepT H3 v x := RepT.gr A1.br.bk (g2.trans g3) r1
    have gg : Gr c.β H H3 := g1.trans (g2.trans g3)
    cases x with
    | tup ds =>
      obtain ⟨a, vs, rfl, z, hq, hr⟩ := RepT.tup r3
      refine .inl (.inl ⟨a, vs, rfl, hK ▸ hq, fun ⟨e1, e2⟩ => ?_, fun ne p hp => ?_⟩)
      · rw [hr.length] at e1 e2
        have h3 : ∀ v H', Gr c.β H H' → c.BrR H' st3 → rkE c true H H' v (.tup (cutD ds l u)) → Q v H' := h3
        rw [cut_whole e1 e2] at h3
        exact h3 _ _ gg A3.br ⟨.tup z hq hr, fun _ => fresh_no fun _ z => nomatch z⟩
      · exact got_tup A3.br.bk (Nat.le_trans (cutV_length vs l u) z) hp (cut_rep hr l u) (got_of gg A3.br h3)
    | lst ds =>
      obtain ⟨a, vs, rfl, z, hq, hr⟩ := RepT.seq r3
      exact .inl (.inr ⟨a, vs, rfl, .inl (.inl hq), fun p hp => got_lst A3.br.bk A3.ok (Nat.le_trans (cutV_length vs l u) z) hp (cut_rep hr l u) (got_of gg A3.br h3)⟩)
    | scr ns =>
      have r4 := r3.rep fun ds z => nomatch z
      cases r4 with
      | @scr a _ hs =>
        have z : (ns.map V.int).length ≤ sizeLine := by rw [List.length_map]; exact hs.1
        refine .inl (.inr ⟨a, ns.map V.int, rfl, hK ▸ hs.sq, fun p hp => ?_⟩)
        refine got_lst (fr := true) A3.br.bk A3.ok (Nat.le_trans (cutV_length _ l u) z) hp (cut_rep (repL_intsV ns) l u) (got_of gg A3.br ?_)
        rw [cut_map]
        exact h3
    | str s =>
      obtain ⟨rfl, z⟩ := repT_str r3
      exact .inr ⟨s, rfl, z, got_str (Nat.le_trans (cutS_length s l u) z) (got_of gg A3.br h3)⟩
    | _ => exact False.elim h3
/-- script[i] -/
def scrP : P2
  | .scr xs, .int i, k => ∃ n, atI xs i = some n ∧ k (.int n)
  | x, y, k => ixP x y k
theorem scrP_mono : MonoP scrP := fun x y k k' f h => by
  cases x <;> cases y <;> first | (obtain ⟨n, e, q⟩ := h; exact ⟨n, e, f _ q⟩) | exact False.elim h
theorem atI_map {α β : Type} (f : α → β) {xs : List α} {i : Int} {n : α} (e : atI xs i = some n) : atI (xs.map f) i = some (f n) := by
  unfold atI at e ⊢
  rw [List.length_map]
  cases q : ixN xs.length i with
  | none => rw [q] at e; cases e
  | some j =>
    rw [q] at e
    show (xs.map f)[j]? = _
    rw [List.getElem?_map, show xs[j]? = some n from e]
    rfl
theorem ixd2 (hK : c.K = X.K) : IxR X (rD c false scrP) := by
  intro value slice pins s σ H x y v u Q I rx ry ⟨dx, dy, bk, ok, hx, hy, h⟩ hs
  have go : ixP dx dy (Got c false H Q) → wpAny (model X.prog X.w) X.A (subscriptTail value slice v u) (EP X pins σ Q) X.xe s := fun h => ixd hK value slice pins s σ H x y v u Q I rx ry ⟨dx, dy, bk, ok, hx, hy, h⟩ hs
  cases dx <;> first | exact go h | skip
  cases dy <;> first | exact go h | skip
  obtain ⟨n, e, q⟩ := h
  have e2 := repT_int hy
  subst e2
  have r4 := hx.rep fun ds z => nomatch z
  cases r4 with
  | @scr a _ hs' => exact ix_list value slice pins s σ H _ _ v u Q I rx ry ⟨a, _, _, _, rfl, rfl, hK ▸ hs'.sq, atI_map V.int e, got_int (fr := false) q⟩ hs
/-! ### the brook -/
def wBix (i j : Nat) : W := fun ρ st k => ρ[i]? = some (some .brook) ∧ ∃ d, st[j]? = some d ∧ k d st
theorem wBix_mono {i j : Nat} : Mono (wBix i j) := fun _ _ _ _ f ⟨e, d, e2, q⟩ => ⟨e, d, e2, f _ _ q⟩
theorem brook_at {i : Nat} (A : At c H σ ρ st) (n : i ∉ c.M) (e : ρ[i]? = some (some .brook)) : ∃ b vs, c.β = some b ∧ σ[i]? = some (some (.ref b)) ∧ H b = some (.lst vs) ∧ c.RepL H vs st := by
  obtain ⟨v, q1, q2⟩ := A.env.val i _ e n
  cases q2 with
  | @brook a eb =>
    have b := A.br
    obtain ⟨K, β, M, O, Hd⟩ := c
    cases β with
    | none => cases eb
    | some p =>
      cases eb
      obtain ⟨h1, vs, h2, h3, _⟩ := b
      exact ⟨_, vs, rfl, q1, h2, h3⟩
theorem atI_nat {α : Type} {xs : List α} {j : Nat} {x : α} (h : xs[j]? = some x) : atI xs (j : Int) = some x := by
  have hl := (List.getElem?_eq_some_iff.mp h).1
  unfold atI ixN
  rw [if_pos (Int.natCast_nonneg j), if_pos (by omega)]
  exact h
theorem pd_bix {i j : Nat} {x : Str} {p p1 pos : Pos} {k0 : Nat} (hK : c.K = X.K) (n : i ∉ c.M) (hN : X.N[i]? = some x) (hv : Vis X.env.scope x) (hd : (x == ("__debug__" : Str)) = false) (hcd : (x == ("__classdict__" : Str)) = false) :
    PE X (.Subscript (.Name x p) (.Constant (.int (j : Int)) k0 p1) pos) (tE c false (wBix i j)) :=
  PEimp (pe_ix ix_list (pe_var hN hv hd hcd) pe_int fun _ _ => rfl) fun σ H Q ⟨ρ, st, A, e, d, e2, q⟩ => by
    obtain ⟨b, vs, hb, hs, hl, hr⟩ := brook_at A n e
    obtain ⟨w, q1, q2⟩ := hr.get e2
    exact ⟨.ref b, hs, b, vs, _, w, rfl, rfl, .inl (.inl hl), atI_nat q1, q w H (Gr.refl H) A.br ⟨q2, fun z => nomatch z⟩⟩
end
end QL
namespace QL
open PySem PySem.Spec PyProof.Rows L2
/-! ### dicts that serve as sets of tuples of ints -/
section
variable (P : Program) (w : World)
def DsAt (h : Heap) (D : Addr) (xs : List (List L2.Key × Addr)) : Prop := (D == sysModules) = false ∧ ∃ o es ep, h.get? D = some o ∧ o.ExactDict ∧ o.data = .dict es ep ∧ es.toList = xs.map (fun p => entryOfKey (tupleKind (mixKind P w)) (p.1, p.2, .bool true)) ∧ (xs.map (·.1)).Nodup
def dsO (D : Addr) (xs : List (List L2.Key × Addr)) : HO := .ext fun h => DsAt P w h D xs
end
def x3 (xs : List (List L2.Key × Addr)) : List (List L2.Key × Addr × Value) := xs.map fun p => (p.1, p.2, .bool true)
def addX (xs : List (List L2.Key × Addr)) (k : List L2.Key) (b : Addr) : List (List L2.Key × Addr) := if (atKey (x3 xs) k).isSome then xs else xs ++ [(k, b)]
theorem addX_len (xs : List (List L2.Key × Addr)) (k : List L2.Key) (b : Addr) : (addX xs k b).length ≤ xs.length + 1 := by
  unfold addX
  split
  · omega
  · rw [List.length_append]; simp
theorem at_x3 {xs : List (List L2.Key × Addr)} {k : List L2.Key} : (atKey (x3 xs) k).isSome = true ↔ k ∈ xs.map (·.1) := by
  induction xs with
  | nil => simp [x3, atKey]
  | cons p xs ih =>
    by_cases e : p.1 = k
    · simp [x3, atKey, e]
    · have : atKey (x3 (p :: xs)) k = atKey (x3 xs) k := by simp [x3, atKey, List.find?_cons, e]
      rw [this, ih]
      simp only [List.map_cons, List.mem_cons]
      constructor
      · exact .inr
      · rintro (z | z)
        · exact absurd z.symm e
        · exact z
theorem storedX (xs : List (List L2.Key × Addr)) (k : List L2.Key) (b : Addr) : storedH (x3 xs) k b (.bool true) = x3 (addX xs k b) := by
  unfold storedH addX
  by_cases h : (atKey (x3 xs) k).isSome = true
  · rw [if_pos h, if_pos h]
    unfold x3
    rw [List.map_map]
    refine List.map_congr_left fun p _ => ?_
    show putAt k (.bool true) (p.1, p.2, .bool true) = _
    unfold putAt
    split <;> rfl
  · rw [if_neg h, if_neg h]
    simp [x3]
theorem dsO_ok {P : Program} {w : World} {H : Hp} {h : Heap} {D : Addr} {xs : List (List L2.Key × Addr)} (d : DsAt P w h D xs) : ObjOk P w H h D (dsO P w D xs) := by
  obtain ⟨h0, o, es, ep, h1, h2⟩ := d
  exact ⟨⟨h0, o, es, ep, h1, h2⟩, ⟨o, h1⟩, fun g1 g2 ⟨_, o', es', ep', q1, q2⟩ k => ⟨h0, o', es', ep', k o' q1, q2⟩⟩
section
variable {X : Cx} {pins : List (Addr × Obj)} {σ : L2.St} {H : Hp} {s : Shared}
theorem ds_of {D : Addr} {xs : List (List L2.Key × Addr)} (I : Inv X pins σ H s) (h : H D = some (dsO X.prog X.w D xs)) : DsAt X.prog X.w s.heap D xs := (show ObjOk X.prog X.w H s.heap D (dsO X.prog X.w D xs) from I.hok D _ h).1
theorem tup_key {b : Addr} {ks : List L2.Key} (I : Inv X pins σ H s) (h : SqT X.K H b (ks.map kV)) : (tupleKind (mixKind X.prog X.w)).is s.heap ks b := by
  obtain ⟨its, r, ⟨o, h1, h2, n, h3⟩, _⟩ := I.tuple h
  exact ⟨o, its.toArray, n, h1, h2, h3, by simpa using items_are r⟩
/-- d[k] = True -/
theorem ds_put {E : Value → Shared → Prop} {D b : Addr} {xs : List (List L2.Key × Addr)} {ks : List L2.Key} {Q : Unit → Shared → Prop} (hu : X.A.units + 1 < cLine) (I : Inv X pins σ H s) (hD : H D = some (dsO X.prog X.w D xs)) (hz : xs.length < sizeLine) (hb : SqT X.K H b (ks.map kV))
    (hx : ∀ p ∈ xs, SqT X.K H p.2 (p.1.map kV)) (q : ∀ s', Inv X pins σ (upd H D (dsO X.prog X.w D (addX xs ks b))) s' → Q () s') : wpAny (model X.prog X.w) X.A (dictSet D (.ref b) (.bool true)) Q E s := by
  obtain ⟨h0, o, es, ep, h1, h2, h3, h4, h5⟩ := ds_of I hD
  have here : s.heap.DictOfH (tupleKind (mixKind X.prog X.w)) D (x3 xs) := by
    refine ⟨o, es, ep, h1, h2, h3, by rw [h4, x3, List.map_map]; rfl, fun y hy => ?_, by rw [x3, List.map_map]; exact h5⟩
    obtain ⟨p, hp, rfl⟩ := List.mem_map.mp hy
    exact tup_key I (hx p hp)
  refine wpAny_dictSet_heap (hsz := by rw [x3, List.length_map]; omega) (show X.A.units < cLine by omega) (tup_key I hb) here fun h' m sb => q _ ?_
  rw [storedX] at m
  obtain ⟨o', es', ep', g1, g2, g3, g4, _, g5⟩ := m
  refine d_write I (by rw [hD]; exact True.intro) sb ⟨o', g1⟩ (dsO_ok ⟨h0, o', es', ep', g1, g2, g3, by rw [g4, x3, List.map_map]; rfl, ?_⟩)
  rw [x3, List.map_map] at g5
  exact g5
end
end QL
namespace QL
open PySem PySem.Spec PyProof.Rows L2
section
variable {X : Cx}
/-- {k: True for tg in iter}, k a tuple of ints and texts: what a turn asks, what it brings -/
def tDs (X : Cx) (wi : TI) (g : TG) (tk : TE) (vs : List Nat) : TE := fun σ H Q => wi σ H fun J H1 => ∀ D, H1 D = none → ∃ W : Nat → Nat → Hp → Prop, (∃ m, W 0 m (upd H1 D (dsO X.prog X.w D []))) ∧ ∀ i m H, W i m H →
  (J.stop i H ∧ Q (.ref D) H) ∨ (J.go i H ∧ ∃ Nx : Hp → Prop, (∀ H', Nx H' → ∃ m', m' < m ∧ W (i + 1) m' H') ∧ ∀ x H', J.yld i H x H' → g x (wipe σ vs) H' fun σ2 H2 => wipe σ2 vs = wipe σ vs ∧ tk σ2 H2 fun y H3 =>
    ∃ xs ks b, y = .ref b ∧ SqT X.K H3 b (ks.map kV) ∧ (∀ p ∈ xs, SqT X.K H3 p.2 (p.1.map kV)) ∧ H3 D = some (dsO X.prog X.w D xs) ∧ xs.length < sizeLine ∧ Nx (upd H3 D (dsO X.prog X.w D (addX xs ks b))))
theorem pe_ds {kx tg iter : Expr} {j0 : Nat} {bp : Pos} {scope : Scope} {own : List (Str × Nat)} {pos : Pos} {wi : TI} {g : TG} {tk : TE} (hu : X.A.units + 1 < cLine) (calm : X.calm = true) (hN : X.N.Nodup) (src : PI X tg iter wi) (ok : BlkOk X.N X.env.scope scope own)
    (tgt : ∀ (s : Shared) (H : Hp) (C : Addr) (cl : List (Str × Addr)) (fp : List Addr), PG (X.blk s H scope (compEnvC scope cl C X.env) fp) tg g)
    (key : ∀ (s : Shared) (H : Hp) (C : Addr) (cl : List (Str × Addr)) (fp : List Addr), PE (X.blk s H scope (compEnvC scope cl C X.env) fp) kx tk) (unf : ∀ x, foldedSetIterable iter X.env x = pure x) :
    PE X (.DictComp kx (.Constant (.bool true) j0 bp) [⟨tg, iter, [], 0⟩] scope pos) (tDs X wi g tk (own.map (·.2))) := by
  refine ⟨fun pins s σ H Q I want => ?_⟩
  rw [arm_eval_DictComp]
  have cellsAt : ∀ y ∈ scope.names, y.2 = .free → ∃ c, X.env.cells.lookup y.1 = some c := fun y hy e => I.ok.has _ (ok.free y hy e)
  refine wpAny_comprehension_free (use := none) rfl unf (closure_ok cellsAt) ok.kind (fun y hy e => (ok.uniq y hy).trans (by rw [e])) (thn (src.run pins s σ H _ I want) fun _ _ got => thn got fun _ sA gotA => ?_)
  obtain ⟨it, fp, tn, J, HA, rfl, IA, tu, at0, frees, rest⟩ := gotA
  refine wpAny_newObj_type (newEnv_comp ?_)
  have noD : HA sA.heap.objs.size = none := IA.hok.fresh (Nat.le_refl _)
  obtain ⟨W, ⟨m0, first⟩, loopTurn⟩ := rest _ noD
  generalize eD : sA.heap.objs.size = D at noD first loopTurn ⊢
  -- the empty dict
  have IB : Inv X pins σ (upd HA D (dsO X.prog X.w D [])) { sA with heap := sA.heap.push { cls := .type "dict", data := .dict #[] } } := by
    refine IA.laid (t' := sA.toks) (fun b o e => Heap.get?_push_of_some _ e) (Nat.le_of_eq eD) (dsO_ok ⟨beq_eq_false_iff_ne.mpr (Ne.symm (Nat.ne_of_lt (eD ▸ IA.big))), { cls := .type "dict", data := .dict #[] }, #[], 0, ?_, ⟨rfl, rfl, rfl⟩, rfl, rfl, List.nodup_nil⟩)
    rw [← eD]
    exact Heap.get?_push_size _ rfl
  have old : ∀ b ∈ fp, b < sA.heap.objs.size := fun b hb => let ⟨o, e, _⟩ := tu.obj _ _ at0 b hb; Heap.lt_size e
  generalize eB : ({ sA with heap := sA.heap.push { cls := .type "dict", data := .dict #[] } } : Shared) = sB at IB ⊢
  have hB : sB.heap = sA.heap.push { cls := .type "dict", data := .dict #[] } := by rw [← eB]
  generalize eHB : upd HA D (dsO X.prog X.w D []) = HB at IB first
  have freeB : ∀ b ∈ fp, FpOk X pins HB b := fun b hb => ⟨by
    rw [← eHB, upd_ne (by rw [← eD]; exact Nat.ne_of_lt (old b hb))]
    exact (frees b hb).1, (frees b hb).2⟩
  have atB : tn 0 sB.heap := tu.keep _ _ _ at0 fun b _ o e => by rw [hB]; exact Heap.get?_push_of_some _ e
  have IC := block_start IB ok hN (fp := fp) fun b hb => ⟨freeB b hb, by rw [hB, Heap.size_push]; exact Nat.lt_succ_of_lt (old b hb)⟩
  have pT := tgt sB HB sB.heap.objs.size (cellsFrom (sB.heap.objs.size + 1) scope.names (cloFrom X.env.cells scope.names [])) fp
  have pK := key sB HB sB.heap.objs.size (cellsFrom (sB.heap.objs.size + 1) scope.names (cloFrom X.env.cells scope.names [])) fp
  show codeAny _ _ (.compStart (.DictComp kx (.Constant (.bool true) j0 bp) [⟨tg, iter, [], 0⟩] scope pos) 0 (.ref it) (.ref D) (compEnvC scope (cellsFrom (sB.heap.objs.size + 1) scope.names (cloFrom X.env.cells scope.names [])) sB.heap.objs.size X.env))
    (compPost (model X.prog X.w) X.A X.xe none (EP X pins σ Q) (.ref D) sB.heap.objs.size) { sB with heap := pushCells (sB.heap.push { cls := .type "dict", data := .dict #[] }) scope.names }
  generalize eE : compEnvC scope (cellsFrom (sB.heap.objs.size + 1) scope.names (cloFrom X.env.cells scope.names [])) sB.heap.objs.size X.env = ce at IC pT pK ⊢
  have locC : ce.locals = sB.heap.objs.size := by rw [← eE]; rfl
  generalize eC : ({ sB with heap := pushCells (sB.heap.push { cls := .type "dict", data := .dict #[] }) scope.names } : Shared) = sC at IC ⊢
  have atC : tn 0 sC.heap := tu.keep _ _ _ atB fun b _ o e => by rw [← eC]; exact pushCells_keeps _ _ _ _ (Heap.get?_push_of_some _ e)
  have fpIn : ∀ {σ' : L2.St} {H' : Hp} {s' : Shared}, Inv (X.blk sB HB scope ce fp) [] σ' H' s' → (∀ b ∈ fp, H' b = none) → ∀ b ∈ fp, FpOk (X.blk sB HB scope ce fp) [] H' b := fun I' n b hb =>
    ⟨n b hb, (I'.ok.exf b hb).1, I'.ok.exfs b hb, .inl hb, fun x c e => (I'.ok.exf b hb).2 x c e, fun p hp => absurd (show p ∈ ([] : List (Addr × Obj)) ++ [] from hp) (by simp)⟩
  have run : codeAny (model X.prog X.w) X.A (.compLoop (.DictComp kx (.Constant (.bool true) j0 bp) [⟨tg, iter, [], 0⟩] scope pos) 0 (.ref it) (.ref D) ce) (compPost (model X.prog X.w) X.A X.xe none (EP X pins σ Q) (.ref D) sB.heap.objs.size) sC := by
    refine compLoop_anyD (fun n s' => ∃ i H', Inv (X.blk sB HB scope ce fp) [] (wipe σ (own.map (·.2))) H' s' ∧ tn i s'.heap ∧ (∀ b ∈ fp, H' b = none) ∧ W i n H') (fun n s1 hs1 => ?_) m0 ⟨0, HB, IC, atC, fun b hb => (freeB b hb).1, first⟩
    obtain ⟨i, H1, I1, at1, n1, w1⟩ := hs1
    rcases loopTurn i n H1 w1 with ⟨ends, fine⟩ | ⟨goes, Nx, less, stepD⟩
    · -- the walk ends
      refine thnF (tu.done (X.blk sB HB scope ce fp) rfl rfl rfl calm i [] s1 _ H1 (fun _ _ => False) I1 (fpIn I1 n1) at1 ends) fun r s2 hr => ?_
      obtain ⟨rfl, I2⟩ := hr
      have I3 : Inv X pins σ H1 s2 := IB.call' (ch := fp) I2.os I2.base I2.hok I2.bare fun b hb => ⟨(freeB b hb).2.2.2.1, (freeB b hb).2.1, (freeB b hb).2.2.2.2.1, (freeB b hb).2.2.2.2.2⟩
      have nC : H1 sB.heap.objs.size = none := by
        have z := I2.free
        rw [show (X.blk sB HB scope ce fp).env.locals = ce.locals from rfl, locC] at z
        exact z
      obtain ⟨m, hm, _⟩ := I2.loc
      have hm : s2.heap.Ns ce.locals m := hm
      rw [locC] at hm
      obtain ⟨f0, f1, _, f3, f4, f5⟩ := IB.fpOk (Nat.le_refl _) nC
      exact ⟨m, hm, fun h'' sb => ⟨.ref D, H1, I3.turned (t' := s2.toks) (fun b o hb e => (sb.2 b hb).trans e) f0 f1 f3 f4 f5, rfl, fine⟩⟩
    · -- a turn
      refine thnF (tu.item (X.blk sB HB scope ce fp) rfl rfl rfl calm i [] s1 _ H1 (fun _ _ => False) I1 (fpIn I1 n1) at1 goes) fun r s2 hr => ?_
      obtain ⟨u, rfl, more⟩ := hr
      refine thnF more fun _ s3 hx => ?_
      obtain ⟨x, H3, I3, rx, yx, at3, n3⟩ := hx
      have I3' := I3.pinned (fpIn I3 n3) (tu.obj _ _ at3)
      refine thnF (pT.run _ s3 _ H3 x u _ I3' rx (stepD x H3 yx)) fun _ s4 h4 => ?_
      obtain ⟨σ4, H4, I4, sameW, q4⟩ := h4
      have hyes : wpAny (model X.prog X.w) X.A (forIn ([] : List Expr) true fun c r => if r = true then do let ok ← isTrue c ce (eval c ce); pure (ForInStep.yield ok) else pure (ForInStep.yield r))
          (fun ok s' => ok = true ∧ s' = s4) (fun _ _ => False) s4 := by
        rw [List.forIn_nil]
        exact wpAny_pure ⟨rfl, rfl⟩
      refine thnF hyes fun okk s5 h5 => ?_
      obtain ⟨rfl, rfl⟩ := h5
      rw [if_pos rfl]
      refine thnF (pK.run _ s5 σ4 H4 _ I4 q4) fun kv s6 h6 => ?_
      obtain ⟨y, H6, I6, ry, xs, ks, b, rfl, hb, hxs, hD, hz, nx⟩ := h6
      cases ry
      refine thnF ((pe_bl (X := X.blk sB HB scope ce fp)).run _ s6 σ4 H6 (fun v H' => v = .bl true ∧ H' = H6) I6 ⟨rfl, rfl⟩) fun vv s7 h7 => ?_
      obtain ⟨v7, H7, I7, rv, rfl, rfl⟩ := h7
      cases rv
      refine ds_put (X := X.blk sB HB scope ce fp) hu I7 hD hz hb hxs fun s8 I8 => ?_
      -- what the next turn finds
      obtain ⟨m', hlt, w'⟩ := less _ nx
      have stayed : ∀ b ∈ fp, ∀ o, s3.heap.get? b = some o → s8.heap.get? b = some o ∧ _ = none := fun b hb o e =>
        let z := I8.pin (b, o) (List.mem_append_right _ (List.mem_append_right _ (mem_pinsAt hb e)))
        ⟨z.1, z.2.1⟩
      refine ⟨m', hlt, i + 1, _, (I8.unpinned (pins := [])).weak (by rw [← sameW, wipe_length]) (fun j v e => ?_), tu.keep _ _ _ at3 fun b hb o e => (stayed b hb o e).1, fun b hb => ?_, w'⟩
      · rw [← sameW] at e
        exact (wipe_some e).1
      · obtain ⟨o, e, _⟩ := tu.obj _ _ at3 b hb
        exact (stayed b hb o e).2
  exact codeAny_compStart_dict run (tu.self X.A 0 _ _ _ atC run)
end
end QL
namespace QL
open PySem PySem.Spec PyProof.Rows L2
/-! ### what such a set gives: list(..), sorted(.., key=sum) -/
section
variable {X : Cx} {pins : List (Addr × Obj)} {σ : L2.St} {H : Hp} {s : Shared}
theorem ds_items {D : Addr} {o : Obj} {es : Array DictEntry} {ep : Nat} {xs : List (List L2.Key × Addr)} {acc : Array Value} (e4 : es.toList = xs.map (fun p => entryOfKey (tupleKind (mixKind X.prog X.w)) (p.1, p.2, .bool true)))
    (it : ItemsOf (fun i v => ∃ en : DictEntry, es[i]? = some en ∧ v = en.key) acc es.size) : acc.toList = xs.map fun p => Value.ref p.2 := by
  have n1 : es.size = xs.length := by rw [← Array.length_toList, e4, List.length_map]
  refine List.ext_getElem? fun j => ?_
  rw [List.getElem?_map]
  cases q : xs[j]? with
  | none =>
    have : xs.length ≤ j := List.getElem?_eq_none_iff.mp q
    rw [List.getElem?_eq_none (by rw [Array.length_toList, it.1, n1]; exact this)]
    rfl
  | some p =>
    have hl : j < acc.toList.length := by rw [Array.length_toList, it.1, n1]; exact (List.getElem?_eq_some_iff.mp q).1
    have h1 := List.getElem?_eq_getElem hl
    obtain ⟨en, h2, h3⟩ := it.2 j _ (by rw [← Array.getElem?_toList]; exact h1)
    have h4 : es.toList[j]? = some en := by rw [Array.getElem?_toList]; exact h2
    rw [e4, List.getElem?_map, q] at h4
    have h5 := Option.some.inj h4
    rw [h1, h3, ← h5]
    rfl
/-- list(the set) -/
theorem ds_list {D : Addr} {xs : List (List L2.Key × Addr)} {Q : VK} (hc : X.calm = true) (I : Inv X pins σ H s) (hD : H D = some (dsO X.prog X.w D xs)) (hz : xs.length ≤ sizeLine) (q : ∀ p, H p = none → Q (.ref p) (upd H p (.lst (xs.map fun x => V.ref x.2)))) :
    wpAny (model X.prog X.w) X.A (call (.type "list") [.ref D]) (EP X pins σ Q) X.xe s := by
  obtain ⟨h0, o, es, ep, h1, h2, h3, h4, h5⟩ := ds_of I hD
  have n1 : es.size = xs.length := by rw [← Array.length_toList, h4, List.length_map]
  refine PySem.W.kdl_call (kdl_raw h0 h2 h3) (I.ok.hd hc) h1 (by omega) fun h' tk acc c' kp e it => ?_
  have ea := ds_items (D := D) (o := o) (ep := ep) h4 it
  refine ⟨.ref s.heap.objs.size, _, I.laid (t' := tk) (o := .lst (xs.map fun x => V.ref x.2)) kp (Nat.le_refl _) ⟨by rw [List.length_map]; exact hz, acc.toList, c', ?_, by rw [Array.toArray_toList]; exact e⟩, rfl, q _ (I.hok.fresh (Nat.le_refl _))⟩
  rw [ea]
  have : ∀ ys : List (List L2.Key × Addr), Vals (ys.map fun x => V.ref x.2) (ys.map fun x => Value.ref x.2) := fun ys => by
    induction ys with
    | nil => exact .nil
    | cons y ys ih => exact .cons rfl ih
  exact this xs
/-- the sum of a key -/
def keySum (k : List L2.Key) : Int := (k.map fun x => match x with | .inl i => i | .inr _ => 0).sum
theorem key_ints : ∀ {k : List L2.Key} {ns : List Int}, k = ns.map .inl → keySum k = ns.sum
  | _, ns, rfl => by
    unfold keySum
    rw [List.map_map]
    have : (ns.map ((fun x : L2.Key => match x with | .inl i => i | .inr _ => 0) ∘ Sum.inl)) = ns := by
      induction ns with
      | nil => rfl
      | cons n ns ih => simp [ih]
    rw [this]
/-- sorted(the set, key=sum) -/
theorem ds_sortSum {D : Addr} {xs : List (List L2.Key × Addr)} {Q : VK} (hc : X.calm = true) (hu : X.A.units + 64 < cLine) (I : Inv X pins σ H s) (hD : H D = some (dsO X.prog X.w D xs)) (hz : xs.length ≤ sizeLine) (hk : ∀ p ∈ xs, (∃ ns : List Int, p.1 = ns.map .inl) ∧ SqT X.K H p.2 (p.1.map kV))
    (q : ∀ p, H p = none → Q (.ref p) (upd H p (.lst ((xs.mergeSort fun a b => decide (keySum a.1 ≤ keySum b.1)).map fun x => V.ref x.2)))) :
    wpAny (model X.prog X.w) X.A (call (.builtin "sorted") [.ref D] [(Str.ofString "key", .builtin "sum")]) (EP X pins σ Q) X.xe s := by
  obtain ⟨h0, o, es, ep, h1, h2, h3, h4, h5⟩ := ds_of I hD
  have n1 : es.size = xs.length := by rw [← Array.length_toList, h4, List.length_map]
  refine call_function_entry_kw kind_sorted plain_sorted entry_sorted (ksk_s1 _ _) ?_
  unfold Builtin.«sorted»
  refine wpAny_bind (m := checkCount "sorted" 1 1 _) (wpAny_pure ?_)
  refine wpAny_bind (PySem.W.kdu_collect (A := X.A.in1) (kdl_raw h0 h2 h3) (I.ok.hd hc) h1 (by omega) fun hA tkA acc kp it => ?_)
  have ea := ds_items (D := D) (o := o) (ep := ep) h4 it
  rw [ea]
  have each : ∀ ys : List (List L2.Key × Addr), PySem.W.EachIs (fun (v : Value) (x : List L2.Key × Addr) => v = .ref x.2) (ys.map fun x => Value.ref x.2) ys := fun ys => by
    induction ys with
    | nil => exact .nil
    | cons y ys ih => exact .cons rfl ih
  have valsOf : ∀ (ys : List (List L2.Key × Addr)) (out : List Value), PySem.W.EachIs (fun (v : Value) (x : List L2.Key × Addr) => v = .ref x.2) out ys → Vals (ys.map fun x => V.ref x.2) out := fun ys out e => by
    induction e with
    | nil => exact .nil
    | cons h _ ih => exact .cons h ih
  have nl : (xs.map fun x => Value.ref x.2).length ≤ sizeLine := by rw [List.length_map]; exact hz
  have IA : Inv X pins σ H { s with heap := hA, toks := tkA } := I.kept kp
  have noL : H hA.objs.size = none := IA.hok.fresh (Nat.le_refl _)
  refine wpAny_bind (wpAny_newList ?_ nl)
  generalize hB : hA.push { cls := .type "list", data := .seq (xs.map fun x => Value.ref x.2).toArray } = heapB
  generalize hL : hA.objs.size = L at noL
  have atL : heapB.get? L = some { cls := .type "list", data := .seq (xs.map fun x => Value.ref x.2).toArray } := by
    rw [← hB, ← hL]
    exact Heap.get?_push_size _ rfl
  have kpB : ∀ b o, hA.get? b = some o → heapB.get? b = some o := fun b o e => by rw [← hB]; exact Heap.get?_push_of_some _ e
  have IB : Inv X pins σ (upd H L (.lst (xs.map fun x => V.ref x.2))) { s with heap := heapB, toks := tkA } :=
    IA.laid (t' := tkA) kpB (Nat.le_of_eq hL) ⟨by rw [List.length_map]; exact hz, _, 0, valsOf xs _ (each xs), atL⟩
  have hd1 : X.A.in1.in1.handled = none := I.ok.hd hc
  have kdef : ∀ x : List L2.Key × Addr, (PyData.int (keySum x.1)).depth = 0 := fun _ => rfl
  have hu1 : X.A.in1.units = X.A.units + 1 := rfl
  have go := PySem.W.list_sort_key_data (prog := X.prog) (w := X.w) (A := X.A.in1) (E := fun e s' => X.xe e s') (s := { s with heap := heapB, toks := tkA }) (a := L) (n := 0) (f := .builtin "sum") (kw := [(Str.ofString "key", .builtin "sum")]) (b := false)
    (Q := fun _ s' => EP X pins σ Q (.ref L) s') (R := fun (v : Value) (x : List L2.Key × Addr) => v = .ref x.2) (vs := xs.map fun x => Value.ref x.2) (bs := xs) (fun x => PyData.int (keySum x.1)) atL (each xs)
    (fun d hd d' hd' => by
      obtain ⟨x, _, rfl⟩ := List.mem_map.mp hd
      obtain ⟨y, _, rfl⟩ := List.mem_map.mp hd'
      rfl)
    (.inr fun d hd => by
      obtain ⟨x, _, rfl⟩ := List.mem_map.mp hd
      exact ⟨(fun z => nomatch z), (fun ys z => nomatch z)⟩) hz (fun x _ => by rw [kdef, hu1]; omega) (ksk_l1 _ _) (ksk_t4 "sum" L)
    (fun v x hv hx h tk kept => by
      subst hv
      obtain ⟨⟨ns, ens⟩, sq⟩ := hk x hx
      obtain ⟨its, rv, ht, _⟩ := I.tuple sq
      have notL : x.2 ≠ L := fun z => by
        obtain ⟨o', e', _⟩ := ht
        have := kp _ _ e'
        rw [z, ← hL] at this
        exact absurd (Heap.lt_size this) (Nat.lt_irrefl _)
      have ht' : h.IsTuple x.2 its.toArray := by
        obtain ⟨o', e', r'⟩ := ht
        exact ⟨o', kept _ _ notL (kpB _ _ (kp _ _ e')), r'⟩
      have ri : Vals (ns.map V.int) its := by
        have e : x.1.map kV = ns.map V.int := by rw [ens, List.map_map]; rfl
        rw [← e]; exact rv
      refine sumT_raw (s := { s with heap := h, toks := tk }) hd1 ht' ri.ints fun h' tk' t' kp' => ⟨h', tk', rfl, kp', ?_⟩
      rw [key_ints ens]
      exact .int _ _)
    (fun out c' h' tk kept eL hlen eo => by
      refine ⟨.ref L, _, IB.write (x := L) (e := L) (o := .lst ((xs.mergeSort fun a b => decide (keySum a.1 ≤ keySum b.1)).map fun x => V.ref x.2)) (t' := tk) (by rw [upd_same]; exact True.intro) (.inl rfl) (fun b u hb e => kept b u hb e) ⟨_, eL⟩
        ⟨by rw [List.length_map, List.length_mergeSort]; exact hz, out, c', valsOf _ _ ?_, eL⟩, rfl, ?_⟩
      · rw [PySem.W.dataLe_int] at eo
        exact eo
      · rw [upd_upd]
        exact q L noL)
  refine wpAny_bind (wpAny_holding (wpAny_mono go (fun _ s' x => wpAny_pure ⟨_, rfl, ?_⟩) fun _ _ e => e))
  exact x
end
end QL
namespace QL
open PySem PySem.Spec PyProof.Rows L2
/-! ### sets of tuples of ints, by data -/
def tupI (ns : List Int) : D := .tup (ns.map D.int)
def addN (acc : List (List Int)) (k : List Int) : List (List Int) := if k ∈ acc then acc else acc ++ [k]
def dedup (xs : List (List Int)) : List (List Int) := xs.foldl addN []
def leSum (a b : List Int) : Bool := decide (a.sum ≤ b.sum)
def wKey (we : W) : W := fun ρ st k => we ρ st fun y st1 => ∃ ns, y = tupI ns ∧ k y st1
theorem wKey_mono {we : W} (m : Mono we) : Mono (wKey we) := fun _ _ _ _ f h => m _ _ _ _ (fun _ _ ⟨ns, e, q⟩ => ⟨ns, e, f _ _ q⟩) h
def wDs (wi : WI) (t : WT) (we : W) (own : List Nat) : En → DS → (List (List Int) → DS → Prop) → Prop := fun ρ st k => wi ρ st fun ds st1 => wMap t (wC (.bl true)) (wKey we) (wipeD ρ own) ds st1 fun ys st2 => ∃ nss : List (List Int), ys = nss.map tupI ∧ k (dedup nss) st2
theorem wDs_mono {wi : WI} {t : WT} {we : W} {own : List Nat} (mi : MonoI wi) (mt : MonoT t) (me : Mono we) (ρ : En) (st : DS) (k k' : List (List Int) → DS → Prop) (f : ∀ d s, k d s → k' d s) (h : wDs wi t we own ρ st k) : wDs wi t we own ρ st k' :=
  mi _ _ _ _ (fun ds st1 h1 => wMap_mono mt wC_mono (wKey_mono me) _ _ _ _ (fun ys s ⟨nss, e, q⟩ => ⟨nss, e, f _ _ q⟩) h1) h
def wLds (wi : WI) (t : WT) (we : W) (own : List Nat) : W := fun ρ st k => wDs wi t we own ρ st fun nss st1 => k (.lst (nss.map tupI)) st1
def wSds (wi : WI) (t : WT) (we : W) (own : List Nat) : W := fun ρ st k => wDs wi t we own ρ st fun nss st1 => k (.lst ((nss.mergeSort leSum).map tupI)) st1
theorem wLds_mono {wi : WI} {t : WT} {we : W} {own : List Nat} (mi : MonoI wi) (mt : MonoT t) (me : Mono we) : Mono (wLds wi t we own) := fun _ _ _ _ f h => wDs_mono mi mt me _ _ _ _ (fun _ _ q => f _ _ q) h
theorem wSds_mono {wi : WI} {t : WT} {we : W} {own : List Nat} (mi : MonoI wi) (mt : MonoT t) (me : Mono we) : Mono (wSds wi t we own) := fun _ _ _ _ f h => wDs_mono mi mt me _ _ _ _ (fun _ _ q => f _ _ q) h
theorem map_inj_of {α β : Type} {f : α → β} (hf : ∀ x y, f x = f y → x = y) : ∀ {a b : List α}, a.map f = b.map f → a = b
  | [], [], _ => rfl
  | [], _ :: _, e => by simp at e
  | _ :: _, [], e => by simp at e
  | x :: a, y :: b, e => by
    rw [List.map_cons, List.map_cons] at e
    injection e with e1 e2
    rw [hf _ _ e1, map_inj_of hf e2]
theorem tupI_inj {a b : List Int} (h : tupI a = tupI b) : a = b := by
  unfold tupI at h
  injection h with h
  exact map_inj_of (fun x y e => by injection e) h
theorem tupIs_inj {a b : List (List Int)} (h : a.map tupI = b.map tupI) : a = b := map_inj_of (fun _ _ e => tupI_inj e) h
/-! an object that is no one's is changed -/
section
variable {K : PySem.W.Frag} {β : Option Addr} {O Hd : Addr → Prop} {H : Hp} {D : Addr} {φ : Heap → Prop} {o : HO}
theorem sqT_x {a : Addr} {vs : List V} (hD : H D = some (.ext φ)) (h : SqT K H a vs) : SqT K (upd H D o) a vs := by
  rcases h with (h | ⟨u, h⟩) | h
  · exact .inl (.inl (by rw [upd_ne (ne_of h hD (by intro z; cases z))]; exact h))
  · exact .inl (.inr ⟨u, by rw [upd_ne (ne_of h hD (by intro z; cases z))]; exact h⟩)
  · exact .inr h
mutual
theorem Rep.wx (hD : H D = some (.ext φ)) : ∀ {v : V} {d : QL.D}, Rep K β O H v d → Rep K β O (upd H D o) v d
  | _, _, .non => .non
  | _, _, .bl _ => .bl _
  | _, _, .int _ => .int _
  | _, _, .str _ z => .str _ z
  | _, _, .tup z h r => .tup z (sqT_x hD h) (RepL.wx hD r)
  | _, _, .lst z n h r => .lst z n (by rw [upd_ne (ne_of h hD (by intro z; cases z))]; exact h) (RepL.wx hD r)
  | _, _, .brook e => .brook e
  | _, _, .scr h => .scr (h.to fun u q => by rw [upd_ne (ne_of q hD (by intro z; cases z))]; exact q)
  | _, _, .raw _ => .raw _
theorem RepL.wx (hD : H D = some (.ext φ)) : ∀ {vs : List V} {ds : List QL.D}, RepL K β O H vs ds → RepL K β O (upd H D o) vs ds
  | _, _, .nil => .nil
  | _, _, .cons h r => .cons (Rep.wx hD h) (RepL.wx hD r)
end
end
section
variable {X : Cx} {c : Fx} {fr : Bool} {σ : L2.St} {H : Hp} {ρ : En} {st : DS}
theorem At.wx {D : Addr} {φ : Heap → Prop} {o : HO} (A : At c H σ ρ st) (hD : H D = some (.ext φ)) : At c (upd H D o) σ ρ st := by
  have nl : ∀ {a vs}, H a = some (.lst vs) → a ≠ D := fun h => ne_of h hD (by intro z; cases z)
  refine ⟨⟨A.env.len, fun i d e n => ?_, fun i d e n => ?_, A.env.inj⟩, ?_, fun a h => ?_⟩
  · obtain ⟨v, q1, q2⟩ := A.env.val i d e n
    exact ⟨v, q1, q2.wx hD⟩
  · obtain ⟨a, q1, h1, h2, ds, xs, rfl, h3, z, h4⟩ := A.env.own i d e n
    exact ⟨a, q1, h1, h2, ds, xs, rfl, by rw [upd_ne (nl h3)]; exact h3, z, h4.wx hD⟩
  · have b := A.br
    obtain ⟨K, β, M, O0, Hd0⟩ := c
    cases β with
    | none => exact b
    | some p =>
      obtain ⟨h1, xs, h2, h3, h4⟩ := b
      exact ⟨h1, xs, (by show upd H D _ p = _; rw [upd_ne (nl h2)]; exact h2), h3.wx hD, h4⟩
  · obtain ⟨xs, q⟩ := A.ok a h
    exact ⟨xs, by rw [upd_ne (nl q)]; exact q⟩
/-- the set at D, from the keys nss -/
def DsD (c : Fx) (X : Cx) (D : Addr) (H : Hp) (nss : List (List Int)) : Prop := ∃ xs, H D = some (dsO X.prog X.w D xs) ∧ xs.map (·.1) = (dedup nss).map (·.map .inl) ∧ xs.length ≤ sizeLine ∧ ∀ p ∈ xs, p.1.length ≤ sizeLine ∧ SqT X.K H p.2 (p.1.map kV)
theorem dedup_snoc (nss : List (List Int)) (ns : List Int) : dedup (nss ++ [ns]) = addN (dedup nss) ns := by
  unfold dedup
  rw [List.foldl_append]
  rfl
theorem inl_inj {a b : List Int} (h : a.map (Sum.inl (β := Str)) = b.map .inl) : a = b := map_inj_of (fun _ _ e => by injection e) h
theorem ds_go {own : List Nat} {g : TG} {t : WT} {sl : List Nat} {wi : WI} {we : W} (hK : c.K = X.K) (hdo : ∀ a, c.Hd a → c.O a) (mi : MonoI wi) (mt : MonoT t) (me : Mono we) (hgt : TgOk c g t sl) (hsl : ∀ i ∈ sl, i ∈ own) {Q : VK} {k : List (List Int) → DS → Prop}
    (A : At c H σ ρ st) (h : wDs wi t we own ρ st k) (fin : ∀ D H' nss st', Gr c.β H H' → At c H' σ ρ st' → DsD c X D H' nss → k (dedup nss) st' → Q (.ref D) H') : tDs X (tX c (RlG c) wi) g (tE c fr we) own σ H Q := by
  refine tX_use mi A h fun ds st1 J H1 g1 A1 src hk => ?_
  intro D hD
  obtain ⟨zl, G, Y, wk, hG, yy⟩ := src
  have ndb : c.β ≠ some D := fun e => by
    obtain ⟨_, vs, q⟩ := A1.br.bk D e
    rw [hD] at q; cases q
  have cr : ∀ H2, Gr c.β H1 H2 → RlG c H1 H2 := fun H2 g => ⟨fun b o e n => g b o e fun z => n (A1.br.bk b z).1.2, A1.ok, hdo⟩
  have gNew : ∀ {o}, Gr c.β H1 (upd H1 D o) := fun {o} => Gr.upd hD
  have A1' : ∀ o, At c (upd H1 D o) σ ρ st1 := fun o => A1.gr gNew (br_same (same_new hD) A1.br)
  let KK : List (List Int) → DS → DS → Prop := fun nss zs s => ∃ mss : List (List Int), nss.map tupI ++ zs = mss.map tupI ∧ k (dedup mss) s
  refine walk_loop wk (fun i H2 => ∃ nss st2, (∃ xs, H2 D = some (dsO X.prog X.w D xs) ∧ xs.map (·.1) = (dedup nss).map (·.map .inl) ∧ xs.length ≤ i ∧ ∀ p ∈ xs, p.1.length ≤ sizeLine ∧ SqT X.K H2 p.2 (p.1.map kV)) ∧ At c H2 σ ρ st2 ∧ Gr c.β H1 H2 ∧
      wMap t (wC (.bl true)) (wKey we) (wipeD ρ own) (ds.drop i) st2 (KK nss))
    ⟨[], st1, ⟨[], upd_same, rfl, Nat.le_refl _, fun _ z => nomatch z⟩, A1' _, gNew, by
      have q : wMap t (wC (.bl true)) (wKey we) (wipeD ρ own) ds st1 (KK []) := wMap_mono mt wC_mono (wKey_mono me) _ _ _ _ (fun ys s z => z) hk
      exact q⟩ (fun i H2 _ ⟨_, _, _, _, g2, _⟩ => hG H2 (cr H2 g2)) ?_ ?_
  · intro i x H2 H3 hi ⟨nss, st2, ⟨xs, hDx, hkeys, hl, hx⟩, A2, g2, hm⟩ hy
    have hd : ds[i]? = some ds[i] := List.getElem?_eq_getElem hi
    obtain ⟨sm, rx⟩ := yy c.O (fun _ z => z) (fun _ z => .inl z) i H2 x H3 _ hd (cr H2 g2) hy
    rw [drop_at hd] at hm
    have g3 : Gr c.β H2 H3 := Gr.of sm
    have A3 : At c H3 σ ρ st2 := A2.gr g3 (br_same sm A2.br)
    refine hgt.run c.O c.Hd x _ _ H3 _ st2 _ _ (A3.wipe own) rx hm fun ρ1 σ1 A5 w5 _ h5 => ?_
    refine ⟨by rw [w5 own hsl, wipe_wipe], ?_⟩
    obtain ⟨b', e', h6⟩ := h5
    cases e'
    have h6 : wKey we ρ1 st2 fun y st2 => wMap t (wC (.bl true)) (wKey we) (wipeD ρ own) (ds.drop (i + 1)) st2 fun ys st3 => KK nss (y :: ys) st3 := h6
    refine tG_use (c := c) (R := rkE c fr) me A5 h6 fun y st4 v H5 g5 r5 A7 ⟨ns, ey, h7⟩ => ?_
    subst ey
    have r5 := r5.1
    cases r5 with
    | @tup b vs _ z hq hr =>
      have evs := hr.ints
      subst evs
      have bk2 := A2.br.bk
      have bk3 := A3.br.bk
      have hD5 : H5 D = some (dsO X.prog X.w D xs) := g5 _ _ (g3 _ _ hDx ndb) ndb
      have ek : (ns.map Sum.inl : List L2.Key).map kV = ns.map V.int := by rw [List.map_map]; rfl
      have hxs5 : ∀ p ∈ xs, SqT X.K H5 p.2 (p.1.map kV) := fun p hp => hK ▸ sqT_gr bk3 g5 (sqT_gr bk2 g3 (hK ▸ (hx p hp).2 : SqT c.K H2 p.2 (p.1.map kV)))
      have hb5 : SqT X.K H5 b ((ns.map Sum.inl : List L2.Key).map kV) := by rw [ek]; exact hK ▸ hq
      refine ⟨xs, ns.map .inl, b, rfl, hb5, hxs5, hD5, by omega, nss ++ [ns], st4, ⟨addX xs (ns.map .inl) b, upd_same, ?_, Nat.le_trans (addX_len _ _ _) (by omega), fun p hp => ?_⟩, ?_, ?_, ?_⟩
      · rw [dedup_snoc]
        unfold addX addN
        have key : (atKey (x3 xs) (ns.map .inl)).isSome = true ↔ ns ∈ dedup nss := by
          rw [at_x3, hkeys]
          constructor
          · intro z
            obtain ⟨m, hm1, hm2⟩ := List.mem_map.mp z
            rw [← inl_inj hm2]; exact hm1
          · exact fun z => List.mem_map.mpr ⟨ns, z, rfl⟩
        by_cases q : ns ∈ dedup nss
        · rw [if_pos (key.mpr q), if_pos q]; exact hkeys
        · rw [if_neg (fun z => q (key.mp z)), if_neg q, List.map_append, List.map_append, hkeys]; rfl
      · have cases_ : p ∈ xs ∨ p = (ns.map .inl, b) := by
          unfold addX at hp
          split at hp
          · exact .inl hp
          · rcases List.mem_append.mp hp with q | q
            · exact .inl q
            · exact .inr (by simpa using q)
        rcases cases_ with q | q
        · exact ⟨(hx p q).1, sqT_x hD5 (hxs5 p q)⟩
        · subst q
          refine ⟨?_, sqT_x hD5 hb5⟩
          rw [List.length_map] at z ⊢
          exact z
      · exact (A3.gr g5 A7.br).wx hD5
      · intro a o e n
        rw [upd_ne (ne_of_none e hD)]
        exact g5 _ _ (g3 _ _ (g2 _ _ e n) n) n
      · exact wMap_mono mt wC_mono (wKey_mono me) _ _ _ _ (fun zs s ⟨mss, e, q⟩ => ⟨mss, by rw [← e, List.map_append, List.append_assoc]; rfl, q⟩) h7
  · intro H2 ⟨nss, st2, ⟨xs, hDx, hkeys, hl, hx⟩, A2, g2, hm⟩
    rw [List.drop_length] at hm
    obtain ⟨mss, e, q⟩ := hm
    rw [List.append_nil] at e
    have e := tupIs_inj e
    subst e
    exact fin D H2 nss st2 (g1.trans g2) A2 ⟨xs, hDx, hkeys, by omega, hx⟩ q
end
end QL
namespace QL
open PySem PySem.Spec PyProof.Rows L2
def noStar' : Expr → Bool
  | .Starred .. => false
  | _ => true
def rDsL (X : Cx) : List V → Hp → VK → Prop := fun vs H Q => ∃ D xs, vs = [.ref D] ∧ H D = some (dsO X.prog X.w D xs) ∧ xs.length ≤ sizeLine ∧ ∀ p, H p = none → Q (.ref p) (upd H p (.lst (xs.map fun x => V.ref x.2)))
def rDsS (X : Cx) : List V → Hp → VK → Prop := fun vs H Q => ∃ D xs, vs = [.ref D] ∧ H D = some (dsO X.prog X.w D xs) ∧ xs.length ≤ sizeLine ∧ (∀ p ∈ xs, (∃ ns : List Int, p.1 = ns.map .inl) ∧ SqT X.K H p.2 (p.1.map kV)) ∧
  ∀ p, H p = none → Q (.ref p) (upd H p (.lst ((xs.mergeSort fun a b => decide (keySum a.1 ≤ keySum b.1)).map fun x => V.ref x.2)))
section
variable {X : Cx} {c : Fx} {fr : Bool} {σ : L2.St} {H : Hp} {ρ : En} {st : DS} {p pos : Pos}
theorem cr_dsL (hc : X.calm = true) : CallR X (.type "list") (rDsL X) := by
  intro pins s σ H vs us Q I r ⟨D, xs, e, hD, hz, q⟩
  subst e
  rw [Vals.ref1 r]
  exact ds_list hc I hD hz q
/-- sorted(e, key=sum) -/
theorem pe_srtSum {t : TE} {a : Expr} {x y : Str} {p2 kp : Pos} (hc : X.calm = true) (hu : X.A.units + 64 < cLine) (ex : x = "sorted") (ey : y = "sum") (gx : Gl X x) (mx : X.mg x = none) (gy : Gl X y) (my : X.mg y = none) (hs : noStar' a = true) (ha : PE X a t) :
    PE X (.Call (.Name x p) [a] [⟨some "key", .Name y p2, kp⟩] pos) (tCB (rDsS X) (tCons t tNil)) := by
  subst ex ey
  refine ⟨fun pins s σ H Q I h => wpAny_Call_Name_kw (ld_blt I gx mx (u := .builtin "sorted") (by decide +kernel) ?_ (by decide) (by decide))⟩
  have pa : PA X [a] (tCons t tNil) := pa_cons ha pa_nil (by cases a <;> first | rfl | exact absurd hs Bool.false_ne_true)
  refine callWith_kw (thn (pa.run pos pins s σ H _ I h) fun us s1 ⟨vs, H1, I1, r1, D, xs, e, hD, hz, hk, q⟩ => ?_) (by cases a <;> first | rfl | exact absurd hs Bool.false_ne_true) (by cases a <;> first | rfl | exact absurd hs Bool.false_ne_true) rfl rfl
  subst e
  rw [Vals.ref1 r1]
  show wpAny _ _ (evalAll [do let v ← eval (.Name "sum" p2) X.env; standAt pos; pure v]) _ _ s1
  refine wpAny_evalAll_cons (wpAny_bind (ld_blt I1 gy my (u := .builtin "sum") (by decide +kernel) ?_ (by decide) (by decide)))
  refine wpAny_bind (wpAny_standAt (wpAny_pure (wpAny_evalAll_nil ?_)))
  exact ds_sortSum hc hu I1 hD hz hk q
theorem repL_ds {H : Hp} (hK : c.K = X.K) : ∀ {xs : List (List L2.Key × Addr)} {nss : List (List Int)}, xs.map (·.1) = nss.map (·.map .inl) → (∀ p ∈ xs, p.1.length ≤ sizeLine ∧ SqT X.K H p.2 (p.1.map kV)) → c.RepL H (xs.map fun x => V.ref x.2) (nss.map tupI)
  | [], [], _, _ => .nil
  | [], _ :: _, e, _ => by simp at e
  | _ :: _, [], e, _ => by simp at e
  | x :: xs, ns :: nss, e, h => by
    rw [List.map_cons, List.map_cons] at e
    injection e with e1 e2
    obtain ⟨z, q⟩ := h x (by simp)
    have ek : x.1.map kV = ns.map V.int := by rw [e1, List.map_map]; rfl
    rw [ek] at q
    refine .cons (.tup ?_ (hK ▸ q) (repL_intsV ns)) (repL_ds hK e2 fun p hp => h p (by simp [hp]))
    have : x.1.length = ns.length := by rw [e1, List.length_map]
    rw [List.length_map, ← this]; exact z
theorem srt_keys {xs : List (List L2.Key × Addr)} {nss : List (List Int)} (e : xs.map (·.1) = nss.map (·.map .inl)) : (xs.mergeSort fun a b => decide (keySum a.1 ≤ keySum b.1)).map (·.1) = (nss.mergeSort leSum).map (·.map .inl) := by
  rw [List.map_mergeSort (s := fun a b => decide (keySum a ≤ keySum b)) (fun a _ b _ => rfl), e]
  rw [List.map_mergeSort (s := fun a b => decide (keySum a ≤ keySum b)) (fun a _ b _ => ?_)]
  unfold leSum
  rw [key_ints (k := a.map .inl) rfl, key_ints (k := b.map .inl) rfl]
section
variable {kx tg iter : Expr} {j0 : Nat} {bp dpos p2 kp : Pos} {scope : Scope} {own : List (Str × Nat)} {g : TG} {t : WT} {sl : List Nat} {wi : WI} {we : W}
theorem pd_lds (hu : X.A.units + 64 < cLine) (hc : X.calm = true) (hK : c.K = X.K) (hN : X.N.Nodup) (hdo : ∀ a, c.Hd a → c.O a) (mi : MonoI wi) (mt : MonoT t) (me : Mono we) (gl : Gl X "list") (ml : X.mg "list" = none)
    (hi : PI X tg iter (tX c (RlG c) wi)) (ok : BlkOk X.N X.env.scope scope own) (hg : ∀ (s : Shared) (H : Hp) (C : Addr) (cl : List (Str × Addr)) (fp : List Addr), PG (X.blk s H scope (compEnvC scope cl C X.env) fp) tg g)
    (hgt : TgOk c g t sl) (hsl : ∀ i ∈ sl, i ∈ own.map (·.2)) (he : ∀ (s : Shared) (H : Hp) (C : Addr) (cl : List (Str × Addr)) (fp : List Addr), PE (X.blk s H scope (compEnvC scope cl C X.env) fp) kx (tE c fr we)) (hs : ∀ x, foldedSetIterable iter X.env x = pure x) :
    PE X (.Call (.Name "list" p) [.DictComp kx (.Constant (.bool true) j0 bp) [⟨tg, iter, [], 0⟩] scope dpos] [] pos) (tE c true (wLds wi t we (own.map (·.2)))) :=
  PEimp (pe_callTy (cr_dsL hc) gl ml (by decide +kernel) (pa_cons (pe_ds (by omega) hc hN hi ok hg he hs) pa_nil) (by decide) (by decide)) fun σ H Q ⟨ρ, st, A, h⟩ => by
    show tDs X (tX c (RlG c) wi) g (tE c fr we) (own.map (·.2)) σ H fun v H1 => rDsL X [v] H1 Q
    refine ds_go hK hdo mi mt me hgt hsl A h fun D H' nss st' gr A' ⟨xs, hD, hkeys, hz, hx⟩ q => ?_
    refine ⟨D, xs, rfl, hD, hz, fun pp hp => ?_⟩
    exact got_lst (fr := true) A'.br.bk A'.ok (by rw [List.length_map]; exact hz) hp (repL_ds hK hkeys hx) (got_of gr A'.br q)
theorem pd_sds {x y : Str} (ex : x = "sorted") (ey : y = "sum") (hu : X.A.units + 64 < cLine) (hc : X.calm = true) (hK : c.K = X.K) (hN : X.N.Nodup) (hdo : ∀ a, c.Hd a → c.O a) (mi : MonoI wi) (mt : MonoT t) (me : Mono we) (gx : Gl X x) (mx : X.mg x = none) (gy : Gl X y) (my : X.mg y = none)
    (hi : PI X tg iter (tX c (RlG c) wi)) (ok : BlkOk X.N X.env.scope scope own) (hg : ∀ (s : Shared) (H : Hp) (C : Addr) (cl : List (Str × Addr)) (fp : List Addr), PG (X.blk s H scope (compEnvC scope cl C X.env) fp) tg g)
    (hgt : TgOk c g t sl) (hsl : ∀ i ∈ sl, i ∈ own.map (·.2)) (he : ∀ (s : Shared) (H : Hp) (C : Addr) (cl : List (Str × Addr)) (fp : List Addr), PE (X.blk s H scope (compEnvC scope cl C X.env) fp) kx (tE c fr we)) (hs : ∀ x, foldedSetIterable iter X.env x = pure x) :
    PE X (.Call (.Name x p) [.DictComp kx (.Constant (.bool true) j0 bp) [⟨tg, iter, [], 0⟩] scope dpos] [⟨some "key", .Name y p2, kp⟩] pos) (tE c true (wSds wi t we (own.map (·.2)))) :=
  PEimp (pe_srtSum hc hu ex ey gx mx gy my rfl (pe_ds (by omega) hc hN hi ok hg he hs)) fun σ H Q ⟨ρ, st, A, h⟩ => by
    show tDs X (tX c (RlG c) wi) g (tE c fr we) (own.map (·.2)) σ H fun v H1 => rDsS X [v] H1 Q
    refine ds_go hK hdo mi mt me hgt hsl A h fun D H' nss st' gr A' ⟨xs, hD, hkeys, hz, hx⟩ q => ?_
    refine ⟨D, xs, rfl, hD, hz, fun pp hp => ⟨?_, (hx pp hp).2⟩, fun pp hp => ?_⟩
    · have : pp.1 ∈ xs.map (·.1) := List.mem_map.mpr ⟨pp, hp, rfl⟩
      rw [hkeys] at this
      obtain ⟨m, _, hm⟩ := List.mem_map.mp this
      exact ⟨m, hm.symm⟩
    · exact got_lst (fr := true) A'.br.bk A'.ok (by rw [List.length_map, List.length_mergeSort]; exact hz) hp (repL_ds hK (srt_keys hkeys) fun z hz' => hx z (List.mem_mergeSort.mp hz')) (got_of gr A'.br q)
end
end
end QL
namespace QL
open PySem PySem.Spec PyProof.Rows L2
/-! ### compact code -/
inductive Cn where
  | non | bl (b : Bool) | int (i : Int) | str (x : Str)
def Cn.d : Cn → D
  | .non => .non
  | .bl b => .bl b
  | .int i => .int i
  | .str x => .str x
inductive Bi where
  | len | isi | max2 | min2 | maxL | minL | sum | abs | int | tuple | list | all | any | divmod | repr | sorted
def Bi.nm : Bi → Str
  | .len => "len" | .isi => "isinstance" | .max2 => "max" | .min2 => "min" | .maxL => "max" | .minL => "min" | .sum => "sum" | .abs => "abs" | .int => "int" | .tuple => "tuple" | .list => "list" | .all => "all"
  | .any => "any" | .divmod => "divmod" | .repr => "repr" | .sorted => "sorted"
def Bi.P : Bi → PL
  | .len => lenP | .isi => isiP | .max2 => max2P | .min2 => min2P | .maxL => maxLP | .minL => minLP | .sum => sumP | .abs => absP | .int => intP | .tuple => tupleP | .list => listP | .all => allP
  | .any => anyP | .divmod => divmodP | .repr => reprP | .sorted => sortedP
theorem Bi.mono : ∀ f : Bi, MonoPL f.P
  | .len => lenP_mono | .isi => isiP_mono | .max2 => max2P_mono | .min2 => min2P_mono | .maxL => maxLP_mono | .minL => minLP_mono | .sum => sumP_mono | .abs => absP_mono | .int => intP_mono | .tuple => tupleP_mono
  | .list => listP_mono | .all => allP_mono | .any => anyP_mono | .divmod => divmodP_mono | .repr => reprP_mono | .sorted => sortedP_mono
def opP : Operator → P2
  | .Add => addP | .Sub => subP | .Mult => mulP | .FloorDiv => fdivP | .Mod => modP | .Pow => powP | _ => fun _ _ _ => False
theorem opP_mono : ∀ o, MonoP (opP o)
  | .Add => addP_mono | .Sub => subP_mono | .Mult => mulP_mono | .FloorDiv => fdivP_mono | .Mod => modP_mono | .Pow => powP_mono
  | .MatMult | .Div | .LShift | .RShift | .BitOr | .BitXor | .BitAnd => fun _ _ _ _ _ h => h
def cmpP : CmpOp → P2
  | .Eq => eqP | .NotEq => neP | .Lt => ltP | .LtE => leP | .Gt => gtP | .GtE => geP | .Is => isP | .IsNot => isnotP | .In => inP false | .NotIn => inP true
theorem cmpP_mono : ∀ o, MonoP (cmpP o)
  | .Eq => eqP_mono | .NotEq => neP_mono | .Lt => ltP_mono | .LtE => leP_mono | .Gt => gtP_mono | .GtE => geP_mono | .Is => isP_mono | .IsNot => isnotP_mono | .In => inP_mono | .NotIn => inP_mono
/-- targets: a name, (t, ..) -/
inductive T where
  | nm (i : Nat) | tp (a : T) | tn | tc (a r : T)
structure TM where
  t : WT := fun _ _ _ => False
  ts : WTs := fun _ _ _ => False
def T.len : T → Nat
  | .tc _ r => r.len + 1
  | _ => 0
def T.sem : T → TM
  | .nm i => { t := wtName i }
  | .tp a => { t := wtTup a.len a.sem.ts }
  | .tn => { ts := wtNil }
  | .tc a r => { ts := wtCons a.sem.t r.sem.ts }
def T.sl : T → List Nat
  | .nm i => [i]
  | .tp a => a.sl
  | .tn => []
  | .tc a r => a.sl ++ r.sl
theorem T.mono : ∀ t : T, MonoT t.sem.t ∧ MonoTs t.sem.ts
  | .nm _ => ⟨wtName_mono, fun _ _ _ _ _ h => h⟩
  | .tp a => ⟨wtTup_mono a.mono.2, fun _ _ _ _ _ h => h⟩
  | .tn => ⟨fun _ _ _ _ _ h => h, wtNil_mono⟩
  | .tc a r => ⟨fun _ _ _ _ _ h => h, wtCons_mono a.mono.1 r.mono.2⟩
inductive E where
  | v (i : Nat) | c (k : Cn) | gi (x : Str) (i : Int) | ty (t : String)
  | bin (o : Operator) (a b : E) | cmp (o : CmpOp) (a b : E) | chain (o p : CmpOp) (a b d : E)
  | and (a b : E) | or (a b : E) | not (a : E) | neg (a : E) | ite (t a b : E)
  | ix (a b : E) | bix (i j : Nat) | sl (a lo hi : E) | tup (as : E) | lst (as : E)
  | call (j : Nat) (as ks : E) | bi (f : Bi) (as : E)
  | lc (own : List (Str × Nat)) (t : T) (it ts e : E)
  | lc2 (own : List (Str × Nat)) (t : T) (it ts : E) (vs : List Nat) (t1 : T) (it1 ts1 e : E)
  | lds (own : List (Str × Nat)) (t : T) (it e : E) | sds (own : List (Str × Nat)) (t : T) (it e : E)
  | callB (i j : Nat) (as : E)
  | nil | cons (a r : E) | star (a r : E)
  | seq (a : E) | rng1 (a : E) | rng2 (a : E) | zip (a : E) | enum (a : E)
/-- the promise of a def, by data: the arguments, the brook, what is wanted -/
structure FS where
  w : DS → DS → Post → Prop
  mono : ∀ ds st k k', (∀ d s, k d s → k' d s) → w ds st k → w ds st k'
  fr : Bool := false
structure Sm where
  e : W := fun _ _ _ => False
  l : WL := fun _ _ _ => False
  i : WI := fun _ _ _ => False
  o : WO := fun _ _ _ => False
  t : W := fun _ _ _ => False
def Sm.ofE (w : W) : Sm := { e := w, o := woS w, t := w }
def wUser (F : FS) (n m : Nat) (ws wk : WL) : W := fun ρ st k => ws ρ st fun xs st1 => wk ρ st1 fun ys st2 => xs.length = n ∧ ys.length = m ∧ F.w (xs ++ ys) st2 k
/-- a thing without parts -/
def isLf : D → Bool
  | .non => true
  | .bl _ => true
  | .int _ => true
  | .str _ => true
  | _ => false
/-- a call that is handed a new list to draw from -/
def wCallB (F G : FS) (n : Nat) (ws : WL) : W := fun ρ st k => ws ρ st fun xs st1 => xs.length = n ∧ F.fr = true ∧ F.w xs st1 fun d st2 => ∃ ns, d = .lst ns ∧ ns.all isI = true ∧ G.w [.brook] ns fun z _ => isLf z = true ∧ k z st2
def E.len : E → Nat
  | .cons _ r => r.len + 1
  | _ => 0
def sem (Γ : Nat → FS) : E → Sm
  | .v i => .ofE (wVar i)
  | .c k => .ofE (wC k.d)
  | .gi _ i => .ofE (wC (.int i))
  | .ty t => .ofE (wC (.raw (.ty t)))
  | .bin o a b => .ofE (wOp (opP o) (sem Γ a).e (sem Γ b).e)
  | .cmp o a b => .ofE (wOp (cmpP o) (sem Γ a).e (sem Γ b).e)
  | .chain o p a b d => .ofE (wChain (cmpP o) (cmpP p) (sem Γ a).e (sem Γ b).e (sem Γ d).e)
  | .and a b => .ofE (wAnd (sem Γ a).e (sem Γ b).e)
  | .or a b => .ofE (wOr (sem Γ a).e (sem Γ b).e)
  | .not a => .ofE (wNot (sem Γ a).e)
  | .neg a => .ofE (wUn negP (sem Γ a).e)
  | .ite t a b => .ofE (wIte (sem Γ t).e (sem Γ a).e (sem Γ b).e)
  | .ix a b => .ofE (wOp scrP (sem Γ a).e (sem Γ b).e)
  | .bix i j => .ofE (wBix i j)
  | .sl a lo hi => .ofE (wSl (sem Γ a).e (sem Γ lo).o (sem Γ hi).o)
  | .tup as => .ofE (wTup (sem Γ as).l)
  | .lst as => .ofE (wLst (sem Γ as).l)
  | .call j as ks => .ofE (wUser (Γ j) as.len ks.len (sem Γ as).l (sem Γ ks).l)
  | .bi f as => .ofE (wCall f.P (sem Γ as).l)
  | .lc own t it ts e => .ofE (wLc (sem Γ it).i t.sem.t (sem Γ ts).t (sem Γ e).e (own.map (·.2)))
  | .lc2 own t it ts vs t1 it1 ts1 e => .ofE (wLc2 (sem Γ it).i t.sem.t (sem Γ ts).t (sem Γ it1).i t1.sem.t (sem Γ ts1).t (sem Γ e).e (own.map (·.2)) vs)
  | .lds own t it e => .ofE (wLds (sem Γ it).i t.sem.t (sem Γ e).e (own.map (·.2)))
  | .sds own t it e => .ofE (wSds (sem Γ it).i t.sem.t (sem Γ e).e (own.map (·.2)))
  | .callB i j as => .ofE (wCallB (Γ i) (Γ j) as.len (sem Γ as).l)
  | .nil => { l := wNil, o := woN, t := wC (.bl true) }
  | .cons a r => { l := wCons (sem Γ a).e (sem Γ r).l }
  | .star a r => { l := wStar (sem Γ a).e (sem Γ r).l }
  | .seq a => { i := wSeq (sem Γ a).e }
  | .rng1 a => { i := wRng1 (sem Γ a).l }
  | .rng2 a => { i := wRng2 (sem Γ a).l }
  | .zip a => { i := wZip (sem Γ a).l }
  | .enum a => { i := wEnum (sem Γ a).l }
/-! ### all of it is monotone -/
structure SmM (s : Sm) : Prop where
  e : Mono s.e
  l : MonoL s.l
  i : MonoI s.i
  o : MonoO s.o
  t : Mono s.t
theorem smE {w : W} (m : Mono w) : SmM (.ofE w) := ⟨m, fun _ _ _ _ _ h => h, fun _ _ _ _ _ h => h, woS_mono m, m⟩
theorem smL {w : WL} (m : MonoL w) : SmM { l := w } := ⟨fun _ _ _ _ _ h => h, m, fun _ _ _ _ _ h => h, fun _ _ _ _ _ h => h, fun _ _ _ _ _ h => h⟩
theorem smI {w : WI} (m : MonoI w) : SmM { i := w } := ⟨fun _ _ _ _ _ h => h, fun _ _ _ _ _ h => h, m, fun _ _ _ _ _ h => h, fun _ _ _ _ _ h => h⟩
theorem wUser_mono {F : FS} {n m : Nat} {ws wk : WL} (m1 : MonoL ws) (m2 : MonoL wk) : Mono (wUser F n m ws wk) := fun _ _ _ _ f h => m1 _ _ _ _ (fun _ _ h => m2 _ _ _ _ (fun _ _ ⟨a, b, h⟩ => ⟨a, b, F.mono _ _ _ _ f h⟩) h) h
theorem wCallB_mono {F G : FS} {n : Nat} {ws : WL} (m : MonoL ws) : Mono (wCallB F G n ws) := fun _ _ _ _ f h => m _ _ _ _ (fun _ _ ⟨a, b, h⟩ => ⟨a, b, F.mono _ _ _ _ (fun _ _ ⟨ns, e, z, h⟩ => ⟨ns, e, z, G.mono _ _ _ _ (fun _ _ ⟨l, q⟩ => ⟨l, f _ _ q⟩) h⟩) h⟩) h
theorem wSeq_mono {w : W} (m : Mono w) : MonoI (wSeq w) := fun _ _ _ _ f h => m _ _ _ _ (fun _ _ ⟨xs, e, q⟩ => ⟨xs, e, f _ _ q⟩) h
theorem wRng1_mono {w : WL} (m : MonoL w) : MonoI (wRng1 w) := fun _ _ _ _ f h => m _ _ _ _ (fun _ _ ⟨j, e, a, b, q⟩ => ⟨j, e, a, b, f _ _ q⟩) h
theorem wRng2_mono {w : WL} (m : MonoL w) : MonoI (wRng2 w) := fun _ _ _ _ f h => m _ _ _ _ (fun _ _ ⟨i, j, e, a, b, q⟩ => ⟨i, j, e, a, b, f _ _ q⟩) h
theorem wZip_mono {w : WL} (m : MonoL w) : MonoI (wZip w) := fun _ _ _ _ f h => m _ _ _ _ (fun _ _ ⟨x, y, us, vs, e, a, b, q⟩ => ⟨x, y, us, vs, e, a, b, f _ _ q⟩) h
theorem wEnum_mono {w : WL} (m : MonoL w) : MonoI (wEnum w) := fun _ _ _ _ f h => m _ _ _ _ (fun _ _ ⟨x, us, e, a, q⟩ => ⟨x, us, e, a, f _ _ q⟩) h
theorem wUnneg {w : W} (m : Mono w) : Mono (wUn negP w) := wUn_mono negP_mono m
theorem sem_mono (Γ : Nat → FS) : ∀ a : E, SmM (sem Γ a)
  | .v _ => smE wVar_mono
  | .c _ => smE wC_mono
  | .gi _ _ => smE wC_mono
  | .ty _ => smE wC_mono
  | .bin o a b => smE (wOp_mono (opP_mono o) (sem_mono Γ a).e (sem_mono Γ b).e)
  | .cmp o a b => smE (wOp_mono (cmpP_mono o) (sem_mono Γ a).e (sem_mono Γ b).e)
  | .chain o p a b d => smE (wChain_mono (cmpP_mono o) (cmpP_mono p) (sem_mono Γ a).e (sem_mono Γ b).e (sem_mono Γ d).e)
  | .and a b => smE (wAnd_mono (sem_mono Γ a).e (sem_mono Γ b).e)
  | .or a b => smE (wOr_mono (sem_mono Γ a).e (sem_mono Γ b).e)
  | .not a => smE (wNot_mono (sem_mono Γ a).e)
  | .neg a => smE (wUnneg (sem_mono Γ a).e)
  | .ite t a b => smE (wIte_mono (sem_mono Γ t).e (sem_mono Γ a).e (sem_mono Γ b).e)
  | .ix a b => smE (wOp_mono scrP_mono (sem_mono Γ a).e (sem_mono Γ b).e)
  | .bix _ _ => smE wBix_mono
  | .sl a lo hi => smE (wSl_mono (sem_mono Γ a).e (sem_mono Γ lo).o (sem_mono Γ hi).o)
  | .tup as => smE (wTup_mono (sem_mono Γ as).l)
  | .lst as => smE (wLst_mono (sem_mono Γ as).l)
  | .call _ as ks => smE (wUser_mono (sem_mono Γ as).l (sem_mono Γ ks).l)
  | .bi f as => smE (wCall_mono f.mono (sem_mono Γ as).l)
  | .lc _ t it ts e => smE (wLc_mono (sem_mono Γ it).i t.mono.1 (sem_mono Γ ts).t (sem_mono Γ e).e)
  | .lc2 _ t it ts _ t1 it1 ts1 e => smE (wLc2_mono (sem_mono Γ it).i t.mono.1 (sem_mono Γ ts).t (sem_mono Γ it1).i t1.mono.1 (sem_mono Γ ts1).t (sem_mono Γ e).e)
  | .lds _ t it e => smE (wLds_mono (sem_mono Γ it).i t.mono.1 (sem_mono Γ e).e)
  | .sds _ t it e => smE (wSds_mono (sem_mono Γ it).i t.mono.1 (sem_mono Γ e).e)
  | .callB _ _ as => smE (wCallB_mono (sem_mono Γ as).l)
  | .nil => ⟨fun _ _ _ _ _ h => h, wNil_mono, fun _ _ _ _ _ h => h, woN_mono, wC_mono⟩
  | .cons a r => smL (wCons_mono (sem_mono Γ a).e (sem_mono Γ r).l)
  | .star a r => smL (wStar_mono (sem_mono Γ a).e (sem_mono Γ r).l)
  | .seq a => smI (wSeq_mono (sem_mono Γ a).e)
  | .rng1 a => smI (wRng1_mono (sem_mono Γ a).l)
  | .rng2 a => smI (wRng2_mono (sem_mono Γ a).l)
  | .zip a => smI (wZip_mono (sem_mono Γ a).l)
  | .enum a => smI (wEnum_mono (sem_mono Γ a).l)
/-! ### compact code looked at beside the text -/
structure CC where
  N : List Str
  sc : Scope
  raw : Option Scope := none
  M : List Nat := []
  fns : List (Str × List Str × Nat) := []
  gis : List (Str × Int) := []
  fr : Bool := false
def CC.fnf (cc : CC) (x : Str) : Bool := match cc.raw with
  | none => true
  | some sc => sc.names.lookup x == some .cell
def CC.blk (cc : CC) (scope : Scope) : CC := { cc with sc := relS scope cc.sc, raw := some scope }
def vis (sc : Scope) (x : Str) : Bool := decide (sc.names.lookup x = some .local) || decide (sc.names.lookup x = some .cell) || decide (sc.names.lookup x = some .free)
def loc (sc : Scope) (x : Str) : Bool := decide (sc.names.lookup x = some .local) || decide (sc.names.lookup x = some .cell)
def glb (sc : Scope) (x : Str) : Bool := decide (sc.names.lookup x = some .globalImplicit)
def okNm (x : Str) : Bool := !(x == ("__debug__" : Str)) && !(x == ("__classdict__" : Str)) && !(x == ("__name__" : Str))
def nmAt (cc : CC) (i : Nat) (x : Str) : Bool := decide (cc.N[i]? = some x) && vis cc.sc x && okNm x
def glAt (cc : CC) (x y : Str) : Bool := decide (x = y) && glb cc.sc x && okNm x
def plainT : Expr → Bool
  | .Name .. => true
  | .Call .. => true
  | .Subscript .. => true
  | .Constant .. => true
  | _ => false
def noStar : Expr → Bool
  | .Starred .. => false
  | _ => true
def noSlice : Expr → Bool
  | .Slice .. => false
  | _ => true
def noSet : Expr → Bool
  | .Set .. => false
  | _ => true
def isTupE : Expr → Bool
  | .Tuple .. => true
  | _ => false
def cnEq : Cn → Const → Bool
  | .non, .none => true
  | .bl b, .bool c => b == c
  | .int i, .int j => decide (i = j)
  | .str x, .str y => decide (x = y) && decide (x.length ≤ sizeLine)
  | _, _ => false
def blkB (N : List Str) (sc scope : Scope) (own : List (Str × Nat)) : Bool :=
  decide (scope.kind = .function) && scope.names.all (fun y => decide (scope.names.lookup y.1 = some y.2)) && own.all (fun p => decide (N[p.2]? = some p.1)) &&
  scope.names.all (fun y => !decide (y.2 = .free) || (decide (sc.names.lookup y.1 = some .cell) || decide (sc.names.lookup y.1 = some .free))) &&
  scope.names.all (fun y => !(decide (y.2 = .local) || decide (y.2 = .cell)) || ((own.map (·.1)).contains y.1 || !N.contains y.1))
structure TMt where
  t : Expr → Bool := fun _ => false
  ts : List Expr → Bool := fun _ => false
def tgAt (cc : CC) (i : Nat) (x : Str) : Bool := decide (cc.N[i]? = some x) && loc cc.sc x && (cc.fnf x || decide (cc.sc.names.lookup x = some .local)) && !cc.M.contains i
def T.mt : T → CC → TMt
  | .nm i, cc => { t := fun e => match e with
      | .Name x _ => tgAt cc i x
      | _ => false }
  | .tp a, cc => { t := fun e => match e with
      | .Tuple es _ _ => (a.mt cc).ts es
      | _ => false }
  | .tn, _ => { ts := fun l => match l with
      | [] => true
      | _ => false }
  | .tc a r, cc => { ts := fun l => match l with
      | x :: xs => noStar x && (a.mt cc).t x && (r.mt cc).ts xs
      | _ => false }
structure Mt where
  e : Expr → Bool := fun _ => false
  r : Expr → Bool := fun _ => false
  t : Expr → Bool := fun _ => false
  b : Expr → Bool := fun _ => false
  l : List Expr → Bool := fun _ => false
  lr : List Expr → Bool := fun _ => false
  k : List Str → List Keyword → Bool := fun _ _ => false
  i : Expr → Expr → Bool := fun _ _ => false
  j : Expr → Expr → Bool := fun _ _ => false
  o : Option Expr → Bool := fun _ => false
  ts : List Expr → Bool := fun _ => false
def oneO (r : Expr → Bool) : Option Expr → Bool
  | some x => r x
  | none => false
def oneT (t : Expr → Bool) : List Expr → Bool
  | [x] => t x
  | _ => false
def nilL : List Expr → Bool
  | [] => true
  | _ => false
def nilK : List Str → List Keyword → Bool
  | [], [] => true
  | _, _ => false
def nilO : Option Expr → Bool
  | none => true
  | _ => false
def consL (f : Expr → Bool) (g : List Expr → Bool) : List Expr → Bool
  | x :: xs => noStar x && f x && g xs
  | _ => false
def starL (f : Expr → Bool) (g : List Expr → Bool) : List Expr → Bool
  | .Starred x _ :: xs => f x && g xs
  | _ => false
def consK (f : Expr → Bool) (g : List Str → List Keyword → Bool) : List Str → List Keyword → Bool
  | y :: ys, ⟨some z, x, _⟩ :: xs => decide (y = z) && f x && g ys xs
  | _, _ => false
def Mt.of (e r t b : Expr → Bool) : Mt := { e := e, r := r, t := t, b := b, o := oneO r, ts := oneT t }
def Mt.ofE (f : Expr → Bool) : Mt := .of f f (fun x => plainT x && f x) (fun _ => false)
def mt : E → CC → Mt
  | .v i, cc => .of (fun e => match e with
      | .Name x _ => nmAt cc i x && !cc.M.contains i
      | _ => false) (fun e => match e with
      | .Name x _ => nmAt cc i x
      | _ => false) (fun e => match e with
      | .Name x _ => nmAt cc i x
      | _ => false) (fun _ => false)
  | .c k, _ => .ofE fun e => match e with
      | .Constant q _ _ => cnEq k q
      | _ => false
  | .gi y i, cc => .ofE fun e => match e with
      | .Name x _ => glAt cc x y && cc.gis.any (fun p => decide (p.1 = y) && decide (p.2 = i))
      | _ => false
  | .ty t, cc => .ofE fun e => match e with
      | .Name x _ => isTy t && glAt cc x (Str.ofString t)
      | _ => false
  | .bin o a b, cc => .ofE fun e => match e with
      | .BinOp x p y _ => decide (o = p) && (mt a cc).r x && (mt b cc).r y
      | _ => false
  | .cmp o a b, cc =>
    let f : Expr → Bool := fun e => match e with
      | .Compare x [p] [y] _ => decide (o = p) && noSet y && (mt a cc).r x && (mt b cc).r y
      | _ => false
    .of f f f (fun _ => false)
  | .chain o p a b d, cc =>
    let f : Expr → Bool := fun e => match e with
      | .Compare x [o', p'] [y, z] _ => decide (o = o') && decide (p = p') && noSet z && (mt a cc).r x && (mt b cc).r y && (mt d cc).r z
      | _ => false
    .of f f f (fun _ => false)
  | .and a b, cc =>
    let g : Expr → Bool := fun e => match e with
      | .BoolOp .And [x, y] _ => (mt a cc).t x && (mt b cc).t y
      | .BoolOp .And (x :: y :: rest) pos => (mt a cc).t x && (mt b cc).b (.BoolOp .And (y :: rest) pos)
      | _ => false
    let f : Expr → Bool := fun e => match e with
      | .BoolOp .And [x, y] _ => (mt a cc).r x && (mt b cc).e y
      | .BoolOp .And (x :: y :: rest) pos => (mt a cc).r x && (mt b cc).e (.BoolOp .And (y :: rest) pos)
      | _ => false
    .of f f g g
  | .or a b, cc =>
    let g : Expr → Bool := fun e => match e with
      | .BoolOp .Or [x, y] _ => (mt a cc).t x && (mt b cc).t y
      | .BoolOp .Or (x :: y :: rest) pos => (mt a cc).t x && (mt b cc).b (.BoolOp .Or (y :: rest) pos)
      | _ => false
    let f : Expr → Bool := fun e => match e with
      | .BoolOp .Or [x, y] _ => (mt a cc).r x && (mt b cc).e y
      | .BoolOp .Or (x :: y :: rest) pos => (mt a cc).r x && (mt b cc).e (.BoolOp .Or (y :: rest) pos)
      | _ => false
    .of f f g g
  | .not a, cc => .of (fun e => match e with
      | .UnaryOp .Not x _ => (mt a cc).r x
      | _ => false) (fun e => match e with
      | .UnaryOp .Not x _ => (mt a cc).r x
      | _ => false) (fun e => match e with
      | .UnaryOp .Not x _ => (mt a cc).t x
      | _ => false) (fun _ => false)
  | .neg a, cc => .ofE fun e => match e with
      | .UnaryOp .USub x _ => (mt a cc).r x
      | _ => false
  | .ite t a b, cc => .ofE fun e => match e with
      | .IfExp x y z _ => (mt t cc).t x && (mt a cc).e y && (mt b cc).e z
      | _ => false
  | .ix a b, cc => .ofE fun e => match e with
      | .Subscript x y _ => noSlice y && (mt a cc).r x && (mt b cc).r y
      | _ => false
  | .bix i j, cc => .ofE fun e => match e with
      | .Subscript (.Name x _) (.Constant (.int k) _ _) _ => nmAt cc i x && !cc.M.contains i && decide (k = (j : Int))
      | _ => false
  | .sl a lo hi, cc => .ofE fun e => match e with
      | .Subscript x (.Slice l h none _) _ => (mt a cc).r x && (mt lo cc).o l && (mt hi cc).o h
      | _ => false
  | .tup as, cc => .ofE fun e => match e with
      | .Tuple es _ _ => (mt as cc).l es
      | _ => false
  | .lst as, cc => .ofE fun e => match e with
      | .List es _ => (mt as cc).l es
      | _ => false
  | .call j as ks, cc => .ofE fun e => match e with
      | .Call (.Name x _) es kws _ => (match cc.fns[j]? with
          | some (y, kn, n) => glAt cc x y && decide (as.len = n) && decide (ks.len = kn.length) && (mt as cc).l es && es.all noStar && (mt ks cc).k kn kws
          | none => false)
      | _ => false
  | .bi f as, cc => .ofE fun e => match e with
      | .Call (.Name x _) (y :: es) [] _ => glAt cc x f.nm && (y :: es).all noStar && (mt as cc).lr (y :: es)
      | _ => false
  | .lc own t it ts e, cc => .ofE fun x => match x with
      | .ListComp elt [⟨tg, iter, ifs, 0⟩] scope _ => blkB cc.N cc.sc scope own && noSet iter && (mt it cc).i tg iter && (t.mt (cc.blk scope)).t tg && t.sl.all (fun i => (own.map (·.2)).contains i) && (mt ts (cc.blk scope)).ts ifs && (mt e (cc.blk scope)).e elt
      | _ => false
  | .lc2 own t it ts vs t1 it1 ts1 e, cc => .ofE fun x => match x with
      | .ListComp elt [⟨tg, iter, ifs, 0⟩, ⟨tg1, iter1, ifs1, 0⟩] scope _ => blkB cc.N cc.sc scope own && noSet iter && noSet iter1 && (mt it cc).i tg iter && (t.mt (cc.blk scope)).t tg && t.sl.all (fun i => (own.map (·.2)).contains i) && (mt ts (cc.blk scope)).ts ifs &&
          vs.all (fun i => (own.map (·.2)).contains i) && (mt it1 (cc.blk scope)).i tg1 iter1 && (t1.mt (cc.blk scope)).t tg1 && t1.sl.all (fun i => vs.contains i) && (mt ts1 (cc.blk scope)).ts ifs1 && (mt e (cc.blk scope)).e elt
      | _ => false
  | .lds own t it e, cc => .ofE fun x => match x with
      | .Call (.Name x _) [.DictComp kx (.Constant (.bool true) _ _) [⟨tg, iter, [], 0⟩] scope _] [] _ => glAt cc x "list" && blkB cc.N cc.sc scope own && noSet iter && (mt it cc).i tg iter && (t.mt (cc.blk scope)).t tg && t.sl.all (fun i => (own.map (·.2)).contains i) && (mt e (cc.blk scope)).e kx
      | _ => false
  | .sds own t it e, cc => .ofE fun x => match x with
      | .Call (.Name x _) [.DictComp kx (.Constant (.bool true) _ _) [⟨tg, iter, [], 0⟩] scope _] [⟨some k, .Name y _, _⟩] _ => glAt cc x "sorted" && decide (k = "key") && glAt cc y "sum" && blkB cc.N cc.sc scope own && noSet iter && (mt it cc).i tg iter && (t.mt (cc.blk scope)).t tg && t.sl.all (fun i => (own.map (·.2)).contains i) && (mt e (cc.blk scope)).e kx
      | _ => false
  | .callB i j as, cc => .ofE fun e => match e with
      | .Call (.Name x _) [.Call (.Name y _) es [] _] [] _ => (match cc.fns[i]?, cc.fns[j]? with
          | some (y', [], n), some (x', [], 1) => glAt cc y y' && glAt cc x x' && decide (as.len = n) && (mt as cc).l es && es.all noStar
          | _, _ => false)
      | _ => false
  | .nil, _ => { l := nilL, lr := nilL, k := nilK, o := nilO, ts := nilL }
  | .cons a r, cc => { l := consL (mt a cc).e (mt r cc).l, lr := consL (mt a cc).r (mt r cc).lr, k := consK (mt a cc).e (mt r cc).k }
  | .star a r, cc => { l := starL (mt a cc).r (mt r cc).l }
  | .seq a, cc => { i := fun _ x => (mt a cc).r x, j := fun _ x => (mt a cc).e x }
  | .rng1 a, cc =>
    let f : Expr → Expr → Bool := fun _ x => match x with
      | .Call (.Name x _) [y] [] _ => glAt cc x "range" && noStar y && (mt a cc).lr [y]
      | _ => false
    { i := f, j := f }
  | .rng2 a, cc =>
    let f : Expr → Expr → Bool := fun _ x => match x with
      | .Call (.Name x _) [y, z] [] _ => glAt cc x "range" && noStar y && noStar z && (mt a cc).lr [y, z]
      | _ => false
    { i := f, j := f }
  | .zip a, cc =>
    let f (g : List Expr → Bool) : Expr → Expr → Bool := fun t x => match x with
      | .Call (.Name x _) [y, z] [] _ => isTupE t && glAt cc x "zip" && noStar y && noStar z && g [y, z]
      | _ => false
    { i := f (mt a cc).lr, j := f (mt a cc).l }
  | .enum a, cc =>
    let f (g : List Expr → Bool) : Expr → Expr → Bool := fun t x => match x with
      | .Call (.Name x _) [y] [] _ => isTupE t && glAt cc x "enumerate" && noStar y && g [y]
      | _ => false
    { i := f (mt a cc).lr, j := f (mt a cc).l }
end QL
namespace QL
open PySem PySem.Spec PyProof.Rows L2
/-! ### the compact code tells the text -/
/-- what a call asks: data, the brook's state -/
def QSp (K : PySem.W.Frag) (F : FS) (vs : List V) (H : Hp) (Q : VK) : Prop := ∃ c : Fx, c.K = K ∧ c.M = [] ∧ (∀ a, c.Hd a → c.O a) ∧ ∃ ds st, c.BrR H st ∧ OkO c.O H ∧ c.RepL H vs ds ∧
  F.w ds st (fun d st' => ∀ v H', Gr c.β H H' → c.BrR H' st' → c.Rep H' v d → (F.fr = true → Fresh c H H' v d) → Q v H')
/-- a def that may be called with n values and the keywords ks -/
structure CalQ (P : Program) (w : World) (K : PySem.W.Frag) (mg : Str → Option Value) (base : Heap) (k : Nat) (x : Str) (ks : List Str) (n : Nat) (F : FS) : Prop where
  ex : ∃ (f : Addr) (fd : FuncData) (ps : List Str) (sp : Sp) (g : List Value → List Value → List Value) (gV : List V → List V → List V), FnOk P w K mg base CX0 k f fd ps sp ∧ mg x = some (.ref f) ∧ PySem.W.keepIn K (.ref f) = true ∧ KBn K fd ps n ks g gV ∧
    ∀ (vs zs : List V) (H : Hp) (Q : VK), vs.length = n → zs.length = ks.length → QSp K F (vs ++ zs) H Q → sp (gV vs zs) H Q E0
def biNames : List Str := ["len", "isinstance", "max", "min", "sum", "abs", "int", "tuple", "list", "all", "any", "divmod", "repr", "sorted", "range", "zip", "enumerate", "bool", "str"]
structure HX (X : Cx) (c : Fx) (cc : CC) (Γ : Nat → FS) : Prop where
  hN : X.N = cc.N
  nd : cc.N.Nodup
  sc : X.env.scope = cc.sc
  fn : ∀ x, X.fn x = cc.fnf x
  calm : X.calm = true
  K : c.K = X.K
  M : c.M = cc.M
  fr : c.fr = cc.fr
  hd : ∀ a, c.Hd a → c.O a
  u : X.A.units + 65 < cLine
  bi : ∀ x ∈ biNames, X.mg x = none
  gi : ∀ p ∈ cc.gis, ∃ t, X.mg p.1 = some (.int p.2 t)
  cal : ∀ j x ks n, cc.fns[j]? = some (x, ks, n) → ∃ k, Room k X.A ∧ CalQ X.prog X.w X.K X.mg X.base k x ks n (Γ j)
section
variable {X : Cx} {c : Fx} {cc : CC} {Γ : Nat → FS} {σ : L2.St} {H : Hp} {ρ : En} {st : DS} {pos p : Pos} {e : Expr} {es : List Expr}
theorem HX.blk (h : HX X c cc Γ) (s : Shared) (H : Hp) (scope : Scope) (C : Addr) (cl : List (Str × Addr)) (fp : List Addr) (O Hd : Addr → Prop) (ho : ∀ a, Hd a → O a) : HX (X.blk s H scope (compEnvC scope cl C X.env) fp) (c.wo O Hd) (cc.blk scope) Γ where
  hN := h.hN
  nd := h.nd
  sc := by show relS scope X.env.scope = _; rw [h.sc]; rfl
  fn := fun x => rfl
  calm := h.calm
  K := h.K
  M := h.M
  fr := h.fr
  hd := ho
  u := h.u
  bi := h.bi
  gi := h.gi
  cal := h.cal
theorem okNm_of {x : Str} (h : okNm x = true) : (x == ("__debug__" : Str)) = false ∧ (x == ("__classdict__" : Str)) = false ∧ x ≠ "__name__" := by
  unfold okNm at h
  simp only [Bool.and_eq_true, Bool.not_eq_true'] at h
  exact ⟨h.1.1, h.1.2, fun e => by rw [e] at h; exact absurd h.2 (by decide)⟩
theorem vis_of {sc : Scope} {x : Str} (h : vis sc x = true) : Vis sc x := by
  unfold vis at h
  simp only [Bool.or_eq_true, decide_eq_true_eq] at h
  rcases h with (h | h) | h
  · exact .inl h
  · exact .inr (.inl h)
  · exact .inr (.inr h)
theorem loc_of {sc : Scope} {x : Str} (h : loc sc x = true) : Loc sc x := by
  unfold loc at h
  simp only [Bool.or_eq_true, decide_eq_true_eq] at h
  exact h
theorem nmAt_of (h : HX X c cc Γ) {i : Nat} {x : Str} (q : nmAt cc i x = true) : X.N[i]? = some x ∧ Vis X.env.scope x ∧ (x == ("__debug__" : Str)) = false ∧ (x == ("__classdict__" : Str)) = false := by
  unfold nmAt at q
  simp only [Bool.and_eq_true, decide_eq_true_eq] at q
  have o := okNm_of q.2
  exact ⟨by rw [h.hN]; exact q.1.1, by rw [h.sc]; exact vis_of q.1.2, o.1, o.2.1⟩
theorem glAt_of (h : HX X c cc Γ) {x y : Str} (q : glAt cc x y = true) : x = y ∧ Gl X x ∧ (x == ("__debug__" : Str)) = false ∧ x ≠ "__name__" := by
  unfold glAt at q
  simp only [Bool.and_eq_true, decide_eq_true_eq] at q
  have o := okNm_of q.2
  refine ⟨q.1.1, ?_, o.1, o.2.2⟩
  show X.env.scope.names.lookup x = _
  rw [h.sc]
  have g := q.1.2
  unfold glb at g
  simpa using g
theorem star_cons {env : Env} (h : noStar e = true) : starEach (e :: es) env = (false, eval e env) :: starEach es env := by
  cases e <;> first | rfl | cases h
theorem star_plain {env : Env} (h : es.all noStar = true) : (backTo pos (starEach es env)).any (·.1) = false := by
  induction es with
  | nil => rfl
  | cons x xs ih =>
    simp only [List.all_cons, Bool.and_eq_true] at h
    rw [star_cons h.1]
    show (false || (backTo pos (starEach xs env)).any (·.1)) = false
    rw [ih h.2]; rfl
theorem noSet_of {env : Env} (h : noSet e = true) : ∀ x, foldedSetIterable e env x = pure x := by
  cases e <;> first | exact fun _ => rfl | cases h
theorem behind_of {op : CmpOp} (h : noSet e = true) : behindInMarks op e = false := by
  cases e <;> first | rfl | cases h
theorem plainT_of {env : Env} (h : plainT e = true) : ∀ whole, isTrue e env whole = (do let v ← whole; standAt e.pos; holding [v] (truthy v)) := by
  cases e <;> first | exact fun _ => rfl | cases h
theorem blkB_of {N : List Str} {sc scope : Scope} {own : List (Str × Nat)} (h : blkB N sc scope own = true) : BlkOk N sc scope own := by
  unfold blkB at h
  simp only [Bool.and_eq_true, decide_eq_true_eq, List.all_eq_true, Bool.or_eq_true, Bool.not_eq_true', decide_eq_false_iff_not] at h
  obtain ⟨⟨⟨⟨h1, h2⟩, h3⟩, h4⟩, h5⟩ := h
  refine ⟨h1, h2, h3, fun y hy e => (h4 y hy).resolve_left fun z => z e, fun y hy e => ?_⟩
  have q := h5 y hy
  rcases q with q | q | q
  · exact absurd q (by rcases e with e | e <;> simp [e])
  · exact .inl (by simpa using q)
  · refine .inr fun z => ?_
    rw [List.contains_eq_mem] at q
    simp [z] at q
theorem cn_of {k : Cn} {q : Const} {n : Nat} (h : cnEq k q = true) : PE X (.Constant q n pos) (tE c true (wC k.d)) := by
  cases k <;> cases q <;> first | cases h | skip
  · exact pd_c pe_non (fun _ => .non) fun _ e => nomatch e
  · have e := eq_of_beq h; subst e
    exact pd_c pe_bl (fun _ => .bl _) fun _ e => nomatch e
  · have e := of_decide_eq_true h; subst e
    exact pd_c pe_int (fun _ => .int _) fun _ e => nomatch e
  · unfold cnEq at h
    simp only [Bool.and_eq_true, decide_eq_true_eq] at h
    obtain ⟨e, z⟩ := h; subst e
    exact pd_c pe_str (fun _ => .str _ z) fun _ e => nomatch e
/-- by operators -/
theorem op_all (h : HX X c cc Γ) (o : Operator) : OpR X (binaryOp o) (rD c true (opP o)) := by
  have no : OpR X (binaryOp o) (rD c true fun _ _ _ => False) := fun _ _ _ _ _ _ _ _ _ _ _ _ ⟨_, _, _, _, _, _, z⟩ => z.elim
  cases o with
  | Add => exact opd_add h.K
  | Sub => exact opd_sub
  | Mult => exact opd_mul h.K
  | FloorDiv => exact opd_fdiv
  | Mod => exact opd_mod
  | Pow => exact opd_pow
  | _ => exact no
theorem cmp_all (h : HX X c cc Γ) (o : CmpOp) : OpR X (compareOp o) (rD c true (cmpP o)) := by
  have u := h.u
  cases o with
  | Eq => exact opd_eq h.K (by omega)
  | NotEq => exact opd_ne h.K (by omega)
  | Lt => exact opd_lt h.K (by omega)
  | LtE => exact opd_le
  | Gt => exact opd_gt
  | GtE => exact opd_ge
  | Is => exact opd_is
  | IsNot => exact opd_isnot
  | In => exact opd_in h.K u
  | NotIn => exact opd_notin h.K u
/-- a call of a built-in by name -/
theorem bi_all (h : HX X c cc Γ) (f : Bi) {as : WL} {x : Str} {y : Expr} (ms : MonoL as) (hx : glAt cc x f.nm = true) (hs : (y :: es).all noStar = true) (ha : PA X (y :: es) (tL c (RepTL c) as)) :
    PE X (.Call (.Name x p) (y :: es) [] pos) (tE c true (wCall f.P as)) := by
  obtain ⟨e, g, d, n⟩ := glAt_of h hx
  have u := h.u
  simp only [List.all_cons, Bool.and_eq_true] at hs
  have m : X.mg x = none := by
    rw [e]
    exact h.bi _ (by cases f <;> decide)
  have fun_ : ∀ {id : String}, CallR X (.builtin id) (rDL c true f.P) → bootBuiltins x = some (.builtin id) → PE X (.Call (.Name x p) (y :: es) [] pos) (tE c true (wCall f.P as)) := fun {id} cr hb =>
    PEimp (pe_callB cr g m hb ha n d (star_cons hs.1) (star_plain hs.2)) fun σ H Q q => call_go f.mono ms q
  have ty_ : ∀ {id : String}, CallR X (.type id) (rDL c true f.P) → bootBuiltins x = some (.type id) → PE X (.Call (.Name x p) (y :: es) [] pos) (tE c true (wCall f.P as)) := fun {id} cr hb =>
    PEimp (pe_callTy cr g m hb ha n d (star_cons hs.1) (star_plain hs.2)) fun σ H Q q => call_go f.mono ms q
  subst e
  cases f with
  | len => exact fun_ (bd_len h.K) (by decide +kernel)
  | isi => exact fun_ (bd_isi h.K) (by decide +kernel)
  | max2 => exact fun_ (bd_max2 h.calm) (by decide +kernel)
  | min2 => exact fun_ (bd_min2 h.calm) (by decide +kernel)
  | maxL => exact fun_ (bd_maxL h.calm) (by decide +kernel)
  | minL => exact fun_ (bd_minL h.calm) (by decide +kernel)
  | sum => exact fun_ (bd_sum h.K h.calm) (by decide +kernel)
  | abs => exact fun_ bd_abs (by decide +kernel)
  | int => exact ty_ bd_int (by decide +kernel)
  | tuple => exact ty_ (bd_tuple h.K) (by decide +kernel)
  | list => exact ty_ (bd_list h.K) (by decide +kernel)
  | all => exact fun_ (bd_all h.calm) (by decide +kernel)
  | any => exact fun_ (bd_any h.calm) (by decide +kernel)
  | divmod => exact fun_ bd_divmod (by decide +kernel)
  | repr => exact fun_ bd_repr (by decide +kernel)
  | sorted => exact fun_ (bd_sorted h.K (by omega)) (by decide +kernel)
end
end QL
namespace QL
open PySem PySem.Spec PyProof.Rows L2
/-! ### targets -/
structure TGm where
  t : TG := fun _ _ _ _ => False
  ts : TGs := fun _ _ _ _ => False
def T.g (K : PySem.W.Frag) : T → TGm
  | .nm i => { t := gName i }
  | .tp a => { t := gTup K a.len (a.g K).ts }
  | .tn => { ts := gNil }
  | .tc a r => { ts := gCons (a.g K).t (r.g K).ts }
section
variable {X : Cx} {c : Fx} {cc : CC} {Γ : Nat → FS} {pos p : Pos}
theorem assignEach_cons {e : Expr} {es : List Expr} {env : Env} (h : noStar e = true) : assignEach (e :: es) env = (false, assign e env) :: assignEach es env := by
  cases e <;> first | rfl | cases h
theorem T.ok (hM : c.M = cc.M) (hK : c.K = X.K) : ∀ t : T, (∀ x, (t.mt cc).t x = true → TgOk c (t.g X.K).t t.sem.t t.sl) ∧ ∀ xs, (t.mt cc).ts xs = true → TgsOk c (t.g X.K).ts t.sem.ts t.sl
  | .nm i => ⟨fun x h => by
      cases x <;> first | cases h | skip
      unfold T.mt tgAt at h
      simp only [Bool.and_eq_true, Bool.not_eq_true'] at h
      exact tg_name fun z => by
        rw [hM] at z
        have q := h.2
        rw [List.contains_eq_mem] at q
        simp [z] at q, fun _ h => absurd h Bool.false_ne_true⟩
  | .tp a => ⟨fun x h => by
      cases x <;> first | cases h | skip
      exact tg_tup hK ((T.ok hM hK a).2 _ h), fun _ h => absurd h Bool.false_ne_true⟩
  | .tn => ⟨fun _ h => absurd h Bool.false_ne_true, fun xs h => tgs_nil⟩
  | .tc a r => ⟨fun _ h => absurd h Bool.false_ne_true, fun xs h => by
      cases xs with
      | nil => cases h
      | cons x xs =>
        unfold T.mt at h
        simp only [Bool.and_eq_true] at h
        exact tgs_cons ((T.ok hM hK a).1 _ h.1.2) ((T.ok hM hK r).2 _ h.2)⟩
theorem T.pg (h : HX X c cc Γ) : ∀ t : T, (∀ x, (t.mt cc).t x = true → PG X x (t.g X.K).t) ∧ ∀ xs, (t.mt cc).ts xs = true → PGs X xs (t.g X.K).ts ∧ (assignEach xs X.env).length = t.len ∧ (assignEach xs X.env).findIdx? (·.1) = none
  | .nm i => ⟨fun x q => by
      cases x <;> first | cases q | skip
      unfold T.mt tgAt at q
      simp only [Bool.and_eq_true, decide_eq_true_eq, Bool.or_eq_true] at q
      refine pg_name (by rw [h.hN]; exact h.nd) (by rw [h.hN]; exact q.1.1.1) (by rw [h.sc]; exact loc_of q.1.1.2) ?_
      rw [h.fn, h.sc]
      exact q.1.2, fun _ h => absurd h Bool.false_ne_true⟩
  | .tp a => ⟨fun x q => by
      cases x <;> first | cases q | skip
      obtain ⟨h1, h2, h3⟩ := (T.pg h a).2 _ q
      exact pg_tup h.calm h1 h2 h3, fun _ h => absurd h Bool.false_ne_true⟩
  | .tn => ⟨fun _ h => absurd h Bool.false_ne_true, fun xs q => by
      cases xs with
      | nil => exact ⟨pgs_nil, rfl, rfl⟩
      | cons x xs => cases q⟩
  | .tc a r => ⟨fun _ h => absurd h Bool.false_ne_true, fun xs q => by
      cases xs with
      | nil => cases q
      | cons x xs =>
        unfold T.mt at q
        simp only [Bool.and_eq_true] at q
        obtain ⟨h1, h2, h3⟩ := (T.pg h r).2 _ q.2
        have e := assignEach_cons (es := xs) (env := X.env) q.1.1
        refine ⟨pgs_cons ((T.pg h a).1 _ q.1.2) h1 (by rw [e]; rfl), by rw [e]; simp [h2, T.len], ?_⟩
        rw [e, List.findIdx?_cons]
        simp [h3]⟩
end
/-! ### calls -/
section
variable {X : Cx} {c : Fx} {cc : CC} {Γ : Nat → FS} {σ : L2.St} {H : Hp} {ρ : En} {st : DS} {pos p : Pos} {e : Expr} {es : List Expr} {kws : List Keyword} {w : W} {ws wk : WL} {nm : Option Str}
theorem PKimp {t t' : TA} (h : PK X kws t) (f : ∀ σ H Q, t' σ H Q → t σ H Q) : PK X kws t' := ⟨fun p pins s σ H Q I q => h.run p pins s σ H Q I (f _ _ _ q)⟩
theorem pkd_nil : PK X [] (tL c c.RepL wNil) := PKimp pk_nil fun σ H Q ⟨ρ, st, A, h⟩ => h [] H (Gr.refl H) A.br .nil
theorem pkd_cons {fr : Bool} {kp : Pos} (m : Mono w) (ms : MonoL ws) (h : PE X e (tE c fr w)) (hs : PK X kws (tL c c.RepL ws)) : PK X (⟨nm, e, kp⟩ :: kws) (tL c c.RepL (wCons w ws)) :=
  PKimp (pk_cons h hs) fun σ H Q ⟨ρ, st, A, hw⟩ => by
    refine tG_use m A hw fun x st1 v H1 g1 r1 A1 h1 => ?_
    refine tL_use ms A1 h1 fun xs st2 vs H2 g2 r2 A2 k => ?_
    exact k _ H2 (g1.trans g2) A2.br (.cons (r1.1.gr A1.br.bk g2) r2)
def kwOk : List Str → List Keyword → Bool
  | [], [] => true
  | y :: ys, ⟨some z, _, _⟩ :: xs => decide (y = z) && kwOk ys xs
  | _, _ => false
theorem kwOk_of : ∀ {ks : List Str} {kws : List Keyword} {env : Env}, kwOk ks kws = true → (backToKw pos (keywordEach kws env)).all (·.1.isSome) = true ∧ (backToKw pos (keywordEach kws env)).filterMap (·.1) = ks ∧ (backToKw pos (keywordEach kws env)).any (·.1.isNone) = false
  | [], [], _, _ => ⟨rfl, rfl, rfl⟩
  | [], _ :: _, _, h => by cases h
  | _ :: _, [], _, h => by cases h
  | y :: ys, ⟨none, _, _⟩ :: xs, _, h => by cases h
  | y :: ys, ⟨some z, v, kp⟩ :: xs, env, h => by
    unfold kwOk at h
    simp only [Bool.and_eq_true, decide_eq_true_eq] at h
    obtain ⟨e, h⟩ := h
    subst e
    obtain ⟨h1, h2, h3⟩ := kwOk_of (env := env) h
    refine ⟨?_, ?_, ?_⟩
    · show (true && (backToKw pos (keywordEach xs env)).all (·.1.isSome)) = true
      rw [h1]; rfl
    · show y :: (backToKw pos (keywordEach xs env)).filterMap (·.1) = y :: ys
      rw [h2]
    · show (false || (backToKw pos (keywordEach xs env)).any (·.1.isNone)) = false
      rw [h3]; rfl
theorem pe_callN0 {CX : CXT} {k : Nat} {f : Addr} {fd : FuncData} {ps ks : List Str} {sp : Sp} {E : XK} {x : Str} {g : List Value → List Value → List Value} {gV : List V → List V → List V} {tk : TA} (F : FnOk X.prog X.w X.K X.mg X.base CX k f fd ps sp) (hr : Room k X.A) (hg : Gl X x)
    (hm : X.mg x = some (.ref f)) (hk : PySem.W.keepIn X.K (.ref f) = true) (hb : KBn X.K fd ps 0 ks g gV) (hx : Passes CX X E) (hkw : PK X kws tk) (hall : (backToKw pos (keywordEach kws X.env)).all (·.1.isSome) = true) (hks : (backToKw pos (keywordEach kws X.env)).filterMap (·.1) = ks)
    (hdb : (x == ("__debug__" : Str)) = false) (hpl : ((backTo pos (starEach [] X.env)).any (·.1) || (backToKw pos (keywordEach kws X.env)).any (·.1.isNone)) = false) : PE X (.Call (.Name x p) [] kws pos) (tCallN 0 ks.length sp gV E tNil tk) := by
  refine ⟨fun pins s σ H Q I h => wpAny_Call_Name_kw (ld_glob I hg hm ?_ hdb)⟩
  refine PySem.W.callWith_KW0 (h₀ := X.base) I.ok.mod.kin hk hall ?_ hpl
  refine thn (hkw.run pos pins s σ H _ I h) fun vs s1 ⟨us, H1, I1, rv, n1, n2, q1⟩ => ⟨I1.kIn, ?_⟩
  rw [hks]
  exact run_fnN (us := []) (vs := []) F hr hb hx I1 .nil rv rfl n2 q1
theorem pd_user (h : HX X c cc Γ) {j : Nat} {x y : Str} {kn : List Str} {n : Nat} (hj : cc.fns[j]? = some (y, kn, n)) (hx : glAt cc x y = true) (hs : es.all noStar = true) (hkw : kwOk kn kws = true) (ms : MonoL ws) (mk : MonoL wk)
    (hn : es = [] → n = 0 ∧ ws = wNil) (ha : PA X es (tL c c.RepL ws)) (hk : PK X kws (tL c c.RepL wk)) : PE X (.Call (.Name x p) es kws pos) (tE c (Γ j).fr (wUser (Γ j) n kn.length ws wk)) := by
  obtain ⟨e, g, d, _⟩ := glAt_of h hx
  subst e
  obtain ⟨k, rm, cal⟩ := h.cal _ _ _ _ hj
  obtain ⟨f, fd, ps, sp, gg, gV, F, hm, kp, kb, hsp⟩ := cal.ex
  obtain ⟨k1, k2, k3⟩ := kwOk_of (pos := pos) (env := X.env) hkw
  have pl := star_plain (pos := pos) (env := X.env) hs
  have fin : ∀ (t : TA), (∀ σ H Q, tL c c.RepL ws σ H Q → t σ H Q) → ∀ σ H Q, tE c (Γ j).fr (wUser (Γ j) n kn.length ws wk) σ H Q → tCallN n kn.length sp gV E0 t (tL c c.RepL wk) σ H Q := fun t ht σ H Q ⟨ρ, st, A, hw⟩ => ht _ _ _ (by
    refine tL_use ms A hw fun xs st1 vs H1 g1 r1 A1 h1 => ?_
    refine tL_use mk A1 h1 fun ys st2 zs H2 g2 r2 A2 ⟨l1, l2, hF⟩ => ?_
    refine ⟨by rw [r1.length]; exact l1, by rw [r2.length]; exact l2, hsp vs zs H2 Q (by rw [r1.length]; exact l1) (by rw [r2.length]; exact l2) ?_⟩
    refine ⟨{ c with M := [] }, h.K, rfl, h.hd, xs ++ ys, st2, A2.br, A2.ok, (r1.gr A1.br.bk g2).append r2, (Γ j).mono _ _ _ _ (fun z st' hz v H' gr br rv fv => ?_) hF⟩
    exact hz v H' (g1.trans (g2.trans gr)) br ⟨rv, fun z => ((fv z).back g2 A2.br).back g1 A1.br⟩)
  cases es with
  | nil =>
    obtain ⟨e0, e1⟩ := hn rfl
    subst e0 e1
    exact PEimp (pe_callN0 F rm g hm kp kb pass0 hk k1 k2 d (by rw [k3]; rfl)) (fin tNil fun σ H Q ⟨ρ, st, A, q⟩ => q [] H (Gr.refl H) A.br .nil)
  | cons z zs =>
    simp only [List.all_cons, Bool.and_eq_true] at hs
    exact PEimp (pe_callN F rm g hm kp kb pass0 ha hk k1 k2 d (star_cons hs.1) (by rw [pl, k3]; rfl)) (fin _ fun _ _ _ q => q)
theorem pd_callB (h : HX X c cc Γ) {i j n : Nat} {x y x' y' : Str} {p1 p2 : Pos} (hi : cc.fns[i]? = some (y', [], n)) (hj : cc.fns[j]? = some (x', [], 1)) (hy : glAt cc y y' = true) (hx : glAt cc x x' = true) (hs : es.all noStar = true) (ms : MonoL ws) (hn : es = [] → n = 0 ∧ ws = wNil)
    (ha : PA X es (tL c c.RepL ws)) : PE X (.Call (.Name x p) [.Call (.Name y p1) es [] p2] [] pos) (tE c false (wCallB (Γ i) (Γ j) n ws)) := by
  have inner := pd_user (p := p1) (pos := p2) h hi hy hs (kws := []) rfl ms wNil_mono hn ha pkd_nil
  obtain ⟨e, g, d, _⟩ := glAt_of h hx
  subst e
  obtain ⟨k, rm, cal⟩ := h.cal _ _ _ _ hj
  obtain ⟨f, fd, ps, sp, gg, gV, F, hm, kp, kb, hsp⟩ := cal.ex
  exact PEimp (pe_callN F rm g hm kp kb pass0 (pa_cons inner pa_nil) pk_nil rfl rfl d rfl rfl) fun σ H Q ⟨ρ, st, A, hw⟩ => by
    show tE c (Γ i).fr (wUser (Γ i) n 0 ws wNil) σ H fun v H1 => ([v] : List V).length = 1 ∧ ([] : List V).length = 0 ∧ sp (gV [v] []) H1 Q E0
    refine ⟨ρ, st, A, ms _ _ _ _ (fun xs st1 h1 => ?_) hw⟩
    obtain ⟨l1, ff, hF⟩ := h1
    refine ⟨l1, rfl, ?_⟩
    rw [List.append_nil]
    refine (Γ i).mono _ _ _ _ (fun dd st2 h2 v H1 g1 br1 rv => ?_) hF
    obtain ⟨ns, ed, hal, h3⟩ := h2
    subst ed
    refine ⟨rfl, rfl, hsp [v] [] H1 Q rfl rfl ?_⟩
    obtain ⟨a, vs, rfl, na, h1a, z, rl⟩ := rv.2 ff ns rfl
    have A1 := A.gr g1 br1
    have nba : c.β ≠ some a := fun e => by
      obtain ⟨_, us, q⟩ := A.br.bk a e
      rw [na] at q; cases q
    refine ⟨{ K := c.K, β := some a, M := [], O := fun b => c.O b ∨ b = a, Hd := fun b => c.Hd b ∨ b = a }, h.K, rfl, fun b q => q.elim (fun q => .inl (h.hd b q)) .inr, [.brook], ns, ⟨⟨.inr rfl, .inr rfl⟩, vs, h1a, rl.leaf hal, hal⟩, fun b q => ?_, .cons (.brook rfl) .nil, (Γ j).mono _ _ _ _ (fun zz st3 hz v2 H2 g2 _ rv2 _ => ?_) h3⟩
    · rcases q with q | q
      · exact A1.ok b q
      · subst q; exact ⟨vs, h1a⟩
    · obtain ⟨lf, hq⟩ := hz
      have neA : ∀ {b o}, H b = some o → b ≠ a := fun e z => by rw [z, na] at e; cases e
      refine hq v2 H2 (fun b o e n => g2 b o (g1 b o e n) fun z => neA e (by injection z with z; exact z.symm)) ?_ ⟨?_, fun z => nomatch z⟩
      · have b := br1
        have bA := A.br
        obtain ⟨K, β, M, O, Hd⟩ := c
        cases β with
        | none => exact b
        | some q =>
          obtain ⟨h5, us, h6, h7, h8⟩ := b
          obtain ⟨_, us0, h60, _⟩ := bA
          have : q ≠ a := neA h60
          exact ⟨h5, us, g2 q _ h6 (fun z => this (by injection z with z; exact z.symm)), h7.leaf h8, h8⟩
      · cases rv2 <;> first | exact .non | exact .bl _ | exact .int _ | exact .str _ (by assumption) | cases lf
end
/-! ### all expressions -/
def E.fr : E → Bool
  | .c _ | .gi .. | .ty _ | .bin .. | .cmp .. | .chain .. | .not _ | .neg _ | .sl .. | .tup _ | .lst _ | .bi .. | .lc .. | .lc2 .. | .lds .. | .sds .. => true
  | _ => false
structure Snd (X : Cx) (c : Fx) (cc : CC) (Γ : Nat → FS) (a : E) : Prop where
  e : ∀ x, (mt a cc).e x = true → PE X x (tE c a.fr (sem Γ a).e)
  r : ∀ x, (mt a cc).r x = true → PE X x (tR c (sem Γ a).e)
  t : ∀ x, (mt a cc).t x = true → PT X x (tT c (sem Γ a).e)
  b : ∀ x, (mt a cc).b x = true → PW X x (tT c (sem Γ a).e)
  l : ∀ x, (mt a cc).l x = true → PA X x (tL c c.RepL (sem Γ a).l)
  lr : ∀ x, (mt a cc).lr x = true → PA X x (tL c (RepTL c) (sem Γ a).l)
  k : ∀ y x, (mt a cc).k y x = true → PK X x (tL c c.RepL (sem Γ a).l) ∧ kwOk y x = true ∧ y.length = a.len
  i : ∀ t x, (mt a cc).i t x = true → PI X t x (tX c (RlG c) (sem Γ a).i)
  j : ∀ t x, (mt a cc).j t x = true → PI X t x (tX c (RlK c) (sem Γ a).i)
  o : ∀ x, (mt a cc).o x = true → PO X x (tOO c (sem Γ a).o)
  ts : ∀ x, (mt a cc).ts x = true → PTs X x (tT c (sem Γ a).t)
section
variable {X : Cx} {c : Fx} {cc : CC} {Γ : Nat → FS} {pos p : Pos} {a : E} {w : W}
theorem ptsd_one {x : Expr} (h : PT X x (tT c w)) : PTs X [x] (tT c w) := pts_one h
theorem Snd.of {e r t b : Expr → Bool} (hm : mt a cc = .of e r t b) (hs : sem Γ a = .ofE w) (m : Mono w) (he : ∀ x, e x = true → PE X x (tE c a.fr w)) (hr : ∀ x, r x = true → PE X x (tR c w)) (ht : ∀ x, t x = true → PT X x (tT c w)) (hb : ∀ x, b x = true → PW X x (tT c w)) : Snd X c cc Γ a := by
  have no : ∀ {q : Prop}, false = true → q := fun z => absurd z Bool.false_ne_true
  constructor <;> rw [hm, hs]
  · exact he
  · exact hr
  · exact ht
  · exact hb
  · exact fun _ z => no z
  · exact fun _ z => no z
  · exact fun _ _ z => no z
  · exact fun _ _ z => no z
  · exact fun _ _ z => no z
  · intro x h
    cases x with
    | none => exact no h
    | some x => exact pod_some m (hr x h)
  · intro x h
    cases x with
    | nil => exact no h
    | cons x xs =>
      cases xs with
      | nil => exact ptsd_one (ht x h)
      | cons _ _ => exact no h
theorem Snd.ofE {f : Expr → Bool} (hm : mt a cc = .ofE f) (hs : sem Γ a = .ofE w) (m : Mono w) (he : ∀ x, f x = true → PE X x (tE c a.fr w)) : Snd X c cc Γ a :=
  .of hm hs m he (fun x h => pe_ofE m (he x h)) (fun x h => by
    simp only [Bool.and_eq_true] at h
    exact pt_of m (pe_ofE m (he x h.2)) (plainT_of h.1)) fun _ z => absurd z Bool.false_ne_true
theorem mt_l_nil : ∀ {a : E}, (mt a cc).l [] = true → a = .nil := fun {a} h => by
  cases a <;> first | rfl | exact absurd h Bool.false_ne_true
end
end QL
namespace QL
open PySem PySem.Spec PyProof.Rows L2
theorem pe_frE {X : Cx} {c : Fx} {w : W} {e : Expr} : ∀ {b : Bool}, Mono w → PE X e (tE c b w) → PE X e (tE c false w)
  | _, m, h => pe_fr m h
theorem snd {Γ : Nat → FS} : ∀ (a : E) {X : Cx} {c : Fx} {cc : CC}, HX X c cc Γ → Snd X c cc Γ a
  | .v i, X, c, cc, h => by
    refine .of rfl rfl wVar_mono (fun x q => ?_) (fun x q => ?_) (fun x q => ?_) (fun _ z => absurd z Bool.false_ne_true)
    · cases x <;> first | cases q | skip
      simp only [Bool.and_eq_true, Bool.not_eq_true'] at q
      obtain ⟨h1, h2, h3, h4⟩ := nmAt_of h q.1
      refine pd_var (fun z => ?_) h1 h2 h3 h4
      have q2 := q.2
      rw [h.M] at z
      rw [List.contains_eq_mem] at q2
      simp [z] at q2
    · cases x <;> first | cases q | skip
      obtain ⟨h1, h2, h3, h4⟩ := nmAt_of h q
      exact pr_var h1 h2 h3 h4
    · cases x <;> first | cases q | skip
      obtain ⟨h1, h2, h3, h4⟩ := nmAt_of h q
      exact pt_of wVar_mono (pr_var h1 h2 h3 h4) (plainT_of rfl)
  | .c k, X, c, cc, h => .ofE rfl rfl wC_mono fun x q => by
    cases x <;> first | cases q | skip
    exact cn_of q
  | .gi y i, X, c, cc, h => .ofE rfl rfl wC_mono fun x q => by
    cases x <;> first | cases q | skip
    simp only [Bool.and_eq_true, List.any_eq_true, decide_eq_true_eq] at q
    obtain ⟨q1, ⟨y', i'⟩, hm, e1, e2⟩ := q
    obtain ⟨e, g, d, _⟩ := glAt_of h q1
    obtain ⟨t, ht⟩ := h.gi _ hm
    subst e
    have e1 : y' = _ := e1
    have e2 : i' = i := e2
    subst e1 e2
    exact pd_c (v := .int i') (pe_glob g ht ⟨t, rfl⟩ d) (fun _ => .int _) fun _ e => nomatch e
  | .ty t, X, c, cc, h => .ofE rfl rfl wC_mono fun x q => by
    cases x <;> first | cases q | skip
    simp only [Bool.and_eq_true] at q
    obtain ⟨e, g, d, n⟩ := glAt_of h q.2
    have ht : t = "int" ∨ t = "bool" ∨ t = "str" ∨ t = "tuple" ∨ t = "list" := by
      have z := q.1
      unfold isTy at z
      simp only [Bool.or_eq_true, beq_iff_eq] at z
      rcases z with (((z | z) | z) | z) | z <;> simp [z]
    subst e
    refine pd_c (v := .ty t) ⟨fun pins s σ H Q I w => ld_blt I g (u := .type t) ?_ ?_ ⟨.ty t, H, I, rfl, w⟩ n d⟩ (fun _ => .raw _) fun _ e => nomatch e
    · rcases ht with rfl | rfl | rfl | rfl | rfl <;> exact h.bi _ (by decide)
    · rcases ht with rfl | rfl | rfl | rfl | rfl <;> decide +kernel
  | .bin o a b, X, c, cc, h => .ofE rfl rfl (wOp_mono (opP_mono o) (sem_mono Γ a).e (sem_mono Γ b).e) fun x q => by
    cases x <;> first | cases q | skip
    simp only [Bool.and_eq_true, decide_eq_true_eq] at q
    obtain ⟨⟨rfl, q1⟩, q2⟩ := q
    exact pd_bin (opP_mono o) (sem_mono Γ a).e (sem_mono Γ b).e (op_all h o) ((snd a h).r _ q1) ((snd b h).r _ q2)
  | .cmp o a b, X, c, cc, h => by
    have key : ∀ x, (mt (.cmp o a b) cc).e x = true → ∃ y z p, x = .Compare y [o] [z] p ∧ noSet z = true ∧ (mt a cc).r y = true ∧ (mt b cc).r z = true := fun x q => by
      simp only [mt, Mt.of] at q
      split at q
      · simp only [Bool.and_eq_true, decide_eq_true_eq] at q
        obtain ⟨⟨⟨rfl, q0⟩, q1⟩, q2⟩ := q
        exact ⟨_, _, _, rfl, q0, q1, q2⟩
      · cases q
    have go := op_all h
    refine .of rfl rfl (wOp_mono (cmpP_mono o) (sem_mono Γ a).e (sem_mono Γ b).e) (fun x q => ?_) (fun x q => ?_) (fun x q => ?_) (fun _ z => absurd z Bool.false_ne_true)
    all_goals
      obtain ⟨y, z, p, rfl, q0, q1, q2⟩ := key x q
    · exact pd_cmp (cmpP_mono o) (sem_mono Γ a).e (sem_mono Γ b).e (cmp_all h o) (behind_of q0) ((snd a h).r _ q1) ((snd b h).r _ q2)
    · exact pe_ofE (wOp_mono (cmpP_mono o) (sem_mono Γ a).e (sem_mono Γ b).e) (pd_cmp (cmpP_mono o) (sem_mono Γ a).e (sem_mono Γ b).e (cmp_all h o) (behind_of q0) ((snd a h).r _ q1) ((snd b h).r _ q2))
    · exact pt_dcmp (cmpP_mono o) (sem_mono Γ a).e (sem_mono Γ b).e (cmp_all h o) (behind_of q0) ((snd a h).r _ q1) ((snd b h).r _ q2)
  | .chain o o' a b d, X, c, cc, h => by
    have key : ∀ x, (mt (.chain o o' a b d) cc).e x = true → ∃ y z u p, x = .Compare y [o, o'] [z, u] p ∧ noSet u = true ∧ (mt a cc).r y = true ∧ (mt b cc).r z = true ∧ (mt d cc).r u = true := fun x q => by
      simp only [mt, Mt.of] at q
      split at q
      · simp only [Bool.and_eq_true, decide_eq_true_eq] at q
        obtain ⟨⟨⟨⟨⟨rfl, rfl⟩, q0⟩, q1⟩, q2⟩, q3⟩ := q
        exact ⟨_, _, _, _, rfl, q0, q1, q2, q3⟩
      · cases q
    have m := wChain_mono (cmpP_mono o) (cmpP_mono o') (sem_mono Γ a).e (sem_mono Γ b).e (sem_mono Γ d).e
    refine .of rfl rfl m (fun x q => ?_) (fun x q => ?_) (fun x q => ?_) (fun _ z => absurd z Bool.false_ne_true)
    all_goals
      obtain ⟨y, z, u, p, rfl, q0, q1, q2, q3⟩ := key x q
    · exact pd_chain (cmpP_mono o) (cmpP_mono o') (sem_mono Γ a).e (sem_mono Γ b).e (sem_mono Γ d).e (cmp_all h o) (cmp_all h o') ((snd a h).r _ q1) ((snd b h).r _ q2) ((snd d h).r _ q3) (behind_of q0)
    · exact pe_ofE m (pd_chain (cmpP_mono o) (cmpP_mono o') (sem_mono Γ a).e (sem_mono Γ b).e (sem_mono Γ d).e (cmp_all h o) (cmp_all h o') ((snd a h).r _ q1) ((snd b h).r _ q2) ((snd d h).r _ q3) (behind_of q0))
    · exact ptd_chain (cmpP_mono o) (cmpP_mono o') (sem_mono Γ a).e (sem_mono Γ b).e (sem_mono Γ d).e (cmp_all h o) (cmp_all h o') ((snd a h).r _ q1) ((snd b h).r _ q2) ((snd d h).r _ q3) (behind_of q0)
  | .and a b, X, c, cc, h => by
    have m := wAnd_mono (sem_mono Γ a).e (sem_mono Γ b).e
    have he : ∀ x, (mt (.and a b) cc).e x = true → PE X x (tE c false (wAnd (sem Γ a).e (sem Γ b).e)) := fun x q => by
      simp only [mt, Mt.of] at q
      split at q
      · simp only [Bool.and_eq_true] at q
        exact pd_and (sem_mono Γ a).e (sem_mono Γ b).e ((snd a h).r _ q.1) (pe_one (pe_frE (sem_mono Γ b).e ((snd b h).e _ q.2)))
      · simp only [Bool.and_eq_true] at q
        exact pd_and (sem_mono Γ a).e (sem_mono Γ b).e ((snd a h).r _ q.1) (pe_frE (sem_mono Γ b).e ((snd b h).e _ q.2))
      · cases q
    have hb : ∀ x, (mt (.and a b) cc).b x = true → PW X x (tT c (wAnd (sem Γ a).e (sem Γ b).e)) := fun x q => by
      simp only [mt, Mt.of] at q
      split at q
      · simp only [Bool.and_eq_true] at q
        exact pwd_and (sem_mono Γ a).e (sem_mono Γ b).e ((snd a h).t _ q.1) (pwd_one1 ((snd b h).t _ q.2))
      · simp only [Bool.and_eq_true] at q
        exact pwd_and (sem_mono Γ a).e (sem_mono Γ b).e ((snd a h).t _ q.1) ((snd b h).b _ q.2)
      · cases q
    exact .of rfl rfl m he (fun x q => pe_ofE m (he x q)) (fun x q => (hb x q).pt) hb
  | .or a b, X, c, cc, h => by
    have m := wOr_mono (sem_mono Γ a).e (sem_mono Γ b).e
    have he : ∀ x, (mt (.or a b) cc).e x = true → PE X x (tE c false (wOr (sem Γ a).e (sem Γ b).e)) := fun x q => by
      simp only [mt, Mt.of] at q
      split at q
      · simp only [Bool.and_eq_true] at q
        exact pd_or (sem_mono Γ a).e (sem_mono Γ b).e ((snd a h).r _ q.1) (pe_one (pe_frE (sem_mono Γ b).e ((snd b h).e _ q.2)))
      · simp only [Bool.and_eq_true] at q
        exact pd_or (sem_mono Γ a).e (sem_mono Γ b).e ((snd a h).r _ q.1) (pe_frE (sem_mono Γ b).e ((snd b h).e _ q.2))
      · cases q
    have hb : ∀ x, (mt (.or a b) cc).b x = true → PW X x (tT c (wOr (sem Γ a).e (sem Γ b).e)) := fun x q => by
      simp only [mt, Mt.of] at q
      split at q
      · simp only [Bool.and_eq_true] at q
        exact pwd_or (sem_mono Γ a).e (sem_mono Γ b).e ((snd a h).t _ q.1) (pwd_one2 ((snd b h).t _ q.2))
      · simp only [Bool.and_eq_true] at q
        exact pwd_or (sem_mono Γ a).e (sem_mono Γ b).e ((snd a h).t _ q.1) ((snd b h).b _ q.2)
      · cases q
    exact .of rfl rfl m he (fun x q => pe_ofE m (he x q)) (fun x q => (hb x q).pt) hb
  | .not a, X, c, cc, h => by
    have m := wNot_mono (sem_mono Γ a).e
    have he : ∀ x, (mt (.not a) cc).e x = true → PE X x (tE c true (wNot (sem Γ a).e)) := fun x q => by
      simp only [mt, Mt.of] at q
      split at q
      · exact pd_not (sem_mono Γ a).e ((snd a h).r _ q)
      · cases q
    refine .of rfl rfl m he (fun x q => pe_ofE m (he x q)) (fun x q => ?_) (fun _ z => absurd z Bool.false_ne_true)
    split at q
    · exact ptd_not (sem_mono Γ a).e ((snd a h).t _ q)
    · cases q
  | .neg a, X, c, cc, h => .ofE rfl rfl (wUnneg (sem_mono Γ a).e) fun x q => by
    split at q
    · exact pd_un negP_mono (sem_mono Γ a).e und_neg ((snd a h).r _ q)
    · cases q
  | .ite t a b, X, c, cc, h => .ofE rfl rfl (wIte_mono (sem_mono Γ t).e (sem_mono Γ a).e (sem_mono Γ b).e) fun x q => by
    cases x <;> first | cases q | skip
    simp only [Bool.and_eq_true] at q
    exact pd_ite (sem_mono Γ t).e (sem_mono Γ a).e (sem_mono Γ b).e ((snd t h).t _ q.1.1) (pe_frE (sem_mono Γ a).e ((snd a h).e _ q.1.2)) (pe_frE (sem_mono Γ b).e ((snd b h).e _ q.2))
  | .ix a b, X, c, cc, h => .ofE rfl rfl (wOp_mono scrP_mono (sem_mono Γ a).e (sem_mono Γ b).e) fun x q => by
    cases x <;> first | cases q | skip
    simp only [Bool.and_eq_true] at q
    refine pd_ix scrP_mono (sem_mono Γ a).e (sem_mono Γ b).e (ixd2 h.K) (plainIx _ fun l u t p e => ?_) ((snd a h).r _ q.1.2) ((snd b h).r _ q.2)
    rw [e] at q
    exact absurd q.1.1 Bool.false_ne_true
  | .bix i j, X, c, cc, h => .ofE rfl rfl wBix_mono fun x q => by
    split at q
    · simp only [Bool.and_eq_true, Bool.not_eq_true', decide_eq_true_eq] at q
      obtain ⟨⟨q1, q2⟩, e⟩ := q
      subst e
      obtain ⟨h1, h2, h3, h4⟩ := nmAt_of h q1
      refine pd_bix h.K (fun z => ?_) h1 h2 h3 h4
      rw [h.M] at z
      rw [List.contains_eq_mem] at q2
      simp [z] at q2
    · cases q
  | .sl a lo hi, X, c, cc, h => .ofE rfl rfl (wSl_mono (sem_mono Γ a).e (sem_mono Γ lo).o (sem_mono Γ hi).o) fun x q => by
    split at q
    · simp only [Bool.and_eq_true] at q
      exact pd_sl h.K (sem_mono Γ a).e (sem_mono Γ lo).o (sem_mono Γ hi).o ((snd a h).r _ q.1.1) ((snd lo h).o _ q.1.2) ((snd hi h).o _ q.2)
    · cases q
  | .tup as, X, c, cc, h => .ofE rfl rfl (wTup_mono (sem_mono Γ as).l) fun x q => by
    cases x <;> first | cases q | skip
    exact pd_tup (sem_mono Γ as).l ((snd as h).l _ q)
  | .lst as, X, c, cc, h => .ofE rfl rfl (wLst_mono (sem_mono Γ as).l) fun x q => by
    cases x <;> first | cases q | skip
    exact pd_lst (sem_mono Γ as).l ((snd as h).l _ q)
  | .call j as ks, X, c, cc, h => .ofE rfl rfl (wUser_mono (sem_mono Γ as).l (sem_mono Γ ks).l) fun x q => by
    split at q
    · split at q
      · rename_i hj
        simp only [Bool.and_eq_true, decide_eq_true_eq] at q
        obtain ⟨⟨⟨⟨⟨q1, q2⟩, q3⟩, q4⟩, q5⟩, q6⟩ := q
        obtain ⟨k1, k2, k3⟩ := (snd ks h).k _ _ q6
        rw [q3, q2]
        refine pe_frE (wUser_mono (sem_mono Γ as).l (sem_mono Γ ks).l) (pd_user h hj q1 q5 k2 (sem_mono Γ as).l (sem_mono Γ ks).l (fun e => ?_) ((snd as h).l _ q4) k1)
        subst e
        have e := mt_l_nil q4
        subst e
        exact ⟨q2.symm, rfl⟩
      · cases q
    · cases q
  | .bi f as, X, c, cc, h => .ofE rfl rfl (wCall_mono f.mono (sem_mono Γ as).l) fun x q => by
    split at q
    · simp only [Bool.and_eq_true] at q
      exact bi_all h f (sem_mono Γ as).l q.1.1 q.1.2 ((snd as h).lr _ q.2)
    · cases q
  | .lc own t it ts e, X, c, cc, h => .ofE rfl rfl (wLc_mono (sem_mono Γ it).i t.mono.1 (sem_mono Γ ts).t (sem_mono Γ e).e) fun x q => by
    split at q
    · rename_i elt tg iter ifs scope pos
      simp only [Bool.and_eq_true, List.all_eq_true] at q
      obtain ⟨⟨⟨⟨⟨⟨q1, q2⟩, q3⟩, q4⟩, q5⟩, q6⟩, q7⟩ := q
      have hb := fun (s : Shared) (H : Hp) (C : Addr) (cl : List (Str × Addr)) (fp : List Addr) (O Hd : Addr → Prop) (ho : ∀ a, Hd a → O a) => h.blk s H scope C cl fp O Hd ho
      refine pd_lc (fr := e.fr) (g := (t.g X.K).t) (sl := t.sl) h.calm (by rw [h.hN]; exact h.nd) h.hd (sem_mono Γ it).i t.mono.1 (sem_mono Γ ts).t (sem_mono Γ e).e ((snd it h).i _ _ q3) (by rw [h.hN, h.sc]; exact blkB_of q1)
        (fun s H C cl fp => (T.pg (hb s H C cl fp c.O c.Hd h.hd) t).1 _ q4) ((T.ok (cc := cc.blk scope) h.M h.K t).1 _ q4) (fun i hi => by simpa using q5 i hi) (fun s H C cl fp O Hd ho => (snd ts (hb s H C cl fp O Hd ho)).ts _ q6)
        (fun s H C cl fp O Hd ho => (snd e (hb s H C cl fp O Hd ho)).e _ q7) (noSet_of q2)
    · cases q
  | .lc2 own t it ts vs t1 it1 ts1 e, X, c, cc, h => .ofE rfl rfl (wLc2_mono (sem_mono Γ it).i t.mono.1 (sem_mono Γ ts).t (sem_mono Γ it1).i t1.mono.1 (sem_mono Γ ts1).t (sem_mono Γ e).e) fun x q => by
    split at q
    · rename_i elt tg iter ifs tg1 iter1 ifs1 scope pos
      simp only [Bool.and_eq_true, List.all_eq_true] at q
      obtain ⟨⟨⟨⟨⟨⟨⟨⟨⟨⟨⟨⟨q1, q2⟩, q2'⟩, q3⟩, q4⟩, q5⟩, q6⟩, q7⟩, q8⟩, q9⟩, q10⟩, q11⟩, q12⟩ := q
      have hb := fun (s : Shared) (H : Hp) (C : Addr) (cl : List (Str × Addr)) (fp : List Addr) (O Hd : Addr → Prop) (ho : ∀ a, Hd a → O a) => h.blk s H scope C cl fp O Hd ho
      refine pd_lc2 (fr := e.fr) (g := (t.g X.K).t) (g1 := (t1.g X.K).t) (sl := t.sl) (sl1 := t1.sl) h.calm (by rw [h.hN]; exact h.nd) h.hd (sem_mono Γ it).i t.mono.1 (sem_mono Γ ts).t (sem_mono Γ it1).i t1.mono.1 (sem_mono Γ ts1).t (sem_mono Γ e).e ((snd it h).i _ _ q3)
        (by rw [h.hN, h.sc]; exact blkB_of q1) (fun i hi => by simpa using q7 i hi)
        (fun s H C cl fp => (T.pg (hb s H C cl fp c.O c.Hd h.hd) t).1 _ q4) ((T.ok (cc := cc.blk scope) h.M h.K t).1 _ q4) (fun i hi => by simpa using q5 i hi) (fun s H C cl fp O Hd ho => (snd ts (hb s H C cl fp O Hd ho)).ts _ q6)
        (fun s H C cl fp O Hd ho => (snd it1 (hb s H C cl fp O Hd ho)).i _ _ q8) (fun s H C cl fp => (T.pg (hb s H C cl fp c.O c.Hd h.hd) t1).1 _ q9) ((T.ok (cc := cc.blk scope) h.M h.K t1).1 _ q9) (fun i hi => by simpa using q10 i hi)
        (fun s H C cl fp O Hd ho => (snd ts1 (hb s H C cl fp O Hd ho)).ts _ q11) (fun s H C cl fp O Hd ho => (snd e (hb s H C cl fp O Hd ho)).e _ q12) (noSet_of q2) (fun env => noSet_of q2')
    · cases q
  | .lds own t it e, X, c, cc, h => .ofE rfl rfl (wLds_mono (sem_mono Γ it).i t.mono.1 (sem_mono Γ e).e) fun x q => by
    split at q
    · rename_i y p kx j0 bp tg iter scope dp pos
      simp only [Bool.and_eq_true, List.all_eq_true] at q
      obtain ⟨⟨⟨⟨⟨⟨q0, q1⟩, q2⟩, q3⟩, q4⟩, q5⟩, q7⟩ := q
      obtain ⟨e0, g, d, _⟩ := glAt_of h q0
      subst e0
      have u := h.u
      have hb := fun (s : Shared) (H : Hp) (C : Addr) (cl : List (Str × Addr)) (fp : List Addr) => h.blk s H scope C cl fp c.O c.Hd h.hd
      exact pd_lds (fr := e.fr) (g := (t.g X.K).t) (sl := t.sl) (by omega) h.calm h.K (by rw [h.hN]; exact h.nd) h.hd (sem_mono Γ it).i t.mono.1 (sem_mono Γ e).e g (h.bi _ (by decide)) ((snd it h).i _ _ q3) (by rw [h.hN, h.sc]; exact blkB_of q1)
        (fun s H C cl fp => (T.pg (hb s H C cl fp) t).1 _ q4) ((T.ok (cc := cc.blk scope) h.M h.K t).1 _ q4) (fun i hi => by simpa using q5 i hi) (fun s H C cl fp => (snd e (hb s H C cl fp)).e _ q7) (noSet_of q2)
    · cases q
  | .sds own t it e, X, c, cc, h => .ofE rfl rfl (wSds_mono (sem_mono Γ it).i t.mono.1 (sem_mono Γ e).e) fun x q => by
    split at q
    · rename_i y p kx j0 bp tg iter scope dp k z p2 kp pos
      simp only [Bool.and_eq_true, List.all_eq_true, decide_eq_true_eq] at q
      obtain ⟨⟨⟨⟨⟨⟨⟨⟨q0, qk⟩, qs⟩, q1⟩, q2⟩, q3⟩, q4⟩, q5⟩, q7⟩ := q
      obtain ⟨e0, g, d, _⟩ := glAt_of h q0
      obtain ⟨e1, g', d', _⟩ := glAt_of h qs
      subst qk
      have u := h.u
      have hb := fun (s : Shared) (H : Hp) (C : Addr) (cl : List (Str × Addr)) (fp : List Addr) => h.blk s H scope C cl fp c.O c.Hd h.hd
      exact pd_sds (fr := e.fr) (g := (t.g X.K).t) (sl := t.sl) e0 e1 (by omega) h.calm h.K (by rw [h.hN]; exact h.nd) h.hd (sem_mono Γ it).i t.mono.1 (sem_mono Γ e).e g (h.bi _ (by rw [e0]; decide)) g' (h.bi _ (by rw [e1]; decide)) ((snd it h).i _ _ q3) (by rw [h.hN, h.sc]; exact blkB_of q1)
        (fun s H C cl fp => (T.pg (hb s H C cl fp) t).1 _ q4) ((T.ok (cc := cc.blk scope) h.M h.K t).1 _ q4) (fun i hi => by simpa using q5 i hi) (fun s H C cl fp => (snd e (hb s H C cl fp)).e _ q7) (noSet_of q2)
    · cases q
  | .callB i j as, X, c, cc, h => .ofE rfl rfl (wCallB_mono (sem_mono Γ as).l) fun x q => by
    split at q
    · split at q
      · rename_i hi hj
        simp only [Bool.and_eq_true, decide_eq_true_eq] at q
        obtain ⟨⟨⟨⟨q1, q2⟩, q3⟩, q4⟩, q5⟩ := q
        rw [q3]
        refine pd_callB h hi hj q1 q2 q5 (sem_mono Γ as).l (fun e => ?_) ((snd as h).l _ q4)
        subst e
        have e := mt_l_nil q4
        subst e
        exact ⟨q3.symm, rfl⟩
      · cases q
    · cases q
  | .nil, X, c, cc, h => by
    constructor
    · exact fun _ z => absurd z Bool.false_ne_true
    · exact fun _ z => absurd z Bool.false_ne_true
    · exact fun _ z => absurd z Bool.false_ne_true
    · exact fun _ z => absurd z Bool.false_ne_true
    · intro x q; cases x with | nil => exact pl_nil | cons _ _ => cases q
    · intro x q; cases x with | nil => exact plr_nil | cons _ _ => cases q
    · intro y x q
      cases y <;> cases x <;> first | exact ⟨pkd_nil, rfl, rfl⟩ | cases q
    · exact fun _ _ z => absurd z Bool.false_ne_true
    · exact fun _ _ z => absurd z Bool.false_ne_true
    · intro x q; cases x with | none => exact pod_none | some _ => cases q
    · intro x q; cases x with | nil => exact pts_no | cons _ _ => cases q
  | .cons a r, X, c, cc, h => by
    constructor
    · exact fun _ z => absurd z Bool.false_ne_true
    · exact fun _ z => absurd z Bool.false_ne_true
    · exact fun _ z => absurd z Bool.false_ne_true
    · exact fun _ z => absurd z Bool.false_ne_true
    · intro x q
      cases x with
      | nil => cases q
      | cons x xs =>
        have q : (noStar x && (mt a cc).e x && (mt r cc).l xs) = true := q
        simp only [Bool.and_eq_true] at q
        exact pl_cons (sem_mono Γ a).e (sem_mono Γ r).l ((snd a h).e _ q.1.2) ((snd r h).l _ q.2) (star_cons q.1.1)
    · intro x q
      cases x with
      | nil => cases q
      | cons x xs =>
        have q : (noStar x && (mt a cc).r x && (mt r cc).lr xs) = true := q
        simp only [Bool.and_eq_true] at q
        exact plr_cons (sem_mono Γ a).e (sem_mono Γ r).l ((snd a h).r _ q.1.2) ((snd r h).lr _ q.2) (star_cons q.1.1)
    · intro y x q
      have q : consK (mt a cc).e (mt r cc).k y x = true := q
      unfold consK at q
      split at q
      · simp only [Bool.and_eq_true, decide_eq_true_eq] at q
        obtain ⟨⟨rfl, q1⟩, q2⟩ := q
        obtain ⟨k1, k2, k3⟩ := (snd r h).k _ _ q2
        refine ⟨pkd_cons (sem_mono Γ a).e (sem_mono Γ r).l ((snd a h).e _ q1) k1, ?_, by simp [E.len, k3]⟩
        unfold kwOk
        simp [k2]
      · cases q
    · exact fun _ _ z => absurd z Bool.false_ne_true
    · exact fun _ _ z => absurd z Bool.false_ne_true
    · exact fun _ z => absurd z Bool.false_ne_true
    · exact fun _ z => absurd z Bool.false_ne_true
  | .star a r, X, c, cc, h => by
    constructor
    · exact fun _ z => absurd z Bool.false_ne_true
    · exact fun _ z => absurd z Bool.false_ne_true
    · exact fun _ z => absurd z Bool.false_ne_true
    · exact fun _ z => absurd z Bool.false_ne_true
    · intro x q
      have q : starL (mt a cc).r (mt r cc).l x = true := q
      unfold starL at q
      split at q
      · simp only [Bool.and_eq_true] at q
        exact pl_star h.K (sem_mono Γ a).e (sem_mono Γ r).l ((snd a h).r _ q.1) ((snd r h).l _ q.2) rfl
      · cases q
    · exact fun _ z => absurd z Bool.false_ne_true
    · exact fun _ _ z => absurd z Bool.false_ne_true
    · exact fun _ _ z => absurd z Bool.false_ne_true
    · exact fun _ _ z => absurd z Bool.false_ne_true
    · exact fun _ z => absurd z Bool.false_ne_true
    · exact fun _ z => absurd z Bool.false_ne_true
  | .seq a, X, c, cc, h => by
    constructor <;> first | exact fun _ z => absurd z Bool.false_ne_true | exact fun _ _ z => absurd z Bool.false_ne_true | skip
    · exact fun t x q => pid_seq h.K h.hd (sem_mono Γ a).e ((snd a h).r _ q)
    · exact fun t x q => pjd_seq h.K (sem_mono Γ a).e ((snd a h).e _ q)
  | .rng1 a, X, c, cc, h => by
    have key : ∀ (Rl : Hp → Hp → Prop) (t x : Expr), (mt (.rng1 a) cc).i t x = true → PI X t x (tX c Rl (wRng1 (sem Γ a).l)) := fun Rl t x q => by
      simp only [mt] at q
      split at q
      · simp only [Bool.and_eq_true] at q
        obtain ⟨e, g, _⟩ := glAt_of h q.1.1
        subst e
        exact pid_rng1 (sem_mono Γ a).l g (h.bi _ (by decide)) ((snd a h).lr _ q.2) (star_cons q.1.2)
      · cases q
    constructor <;> first | exact fun _ z => absurd z Bool.false_ne_true | exact fun _ _ z => absurd z Bool.false_ne_true | skip
    · exact fun t x q => key _ t x q
    · exact fun t x q => key _ t x q
  | .rng2 a, X, c, cc, h => by
    have key : ∀ (Rl : Hp → Hp → Prop) (t x : Expr), (mt (.rng2 a) cc).i t x = true → PI X t x (tX c Rl (wRng2 (sem Γ a).l)) := fun Rl t x q => by
      simp only [mt] at q
      split at q
      · simp only [Bool.and_eq_true] at q
        obtain ⟨e, g, _⟩ := glAt_of h q.1.1.1
        subst e
        exact pid_rng2 (sem_mono Γ a).l g (h.bi _ (by decide)) ((snd a h).lr _ q.2) (by rw [star_cons q.1.1.2, star_cons q.1.2]; rfl) (star_cons q.1.2)
      · cases q
    constructor <;> first | exact fun _ z => absurd z Bool.false_ne_true | exact fun _ _ z => absurd z Bool.false_ne_true | skip
    · exact fun t x q => key _ t x q
    · exact fun t x q => key _ t x q
  | .zip a, X, c, cc, h => by
    constructor <;> first | exact fun _ z => absurd z Bool.false_ne_true | exact fun _ _ z => absurd z Bool.false_ne_true | skip
    · intro t x q
      simp only [mt] at q
      split at q
      · simp only [Bool.and_eq_true] at q
        obtain ⟨⟨⟨⟨q0, q1⟩, q2⟩, q3⟩, q4⟩ := q
        obtain ⟨e, g, _⟩ := glAt_of h q1
        subst e
        cases t <;> first | cases q0 | skip
        exact pid_zip h.K h.hd (sem_mono Γ a).l g (h.bi _ (by decide)) ((snd a h).lr _ q4) (star_cons q2) (star_plain (by simp [q3]))
      · cases q
    · intro t x q
      simp only [mt] at q
      split at q
      · simp only [Bool.and_eq_true] at q
        obtain ⟨⟨⟨⟨q0, q1⟩, q2⟩, q3⟩, q4⟩ := q
        obtain ⟨e, g, _⟩ := glAt_of h q1
        subst e
        cases t <;> first | cases q0 | skip
        exact pjd_zip h.K (sem_mono Γ a).l g (h.bi _ (by decide)) ((snd a h).l _ q4) (star_cons q2) (star_plain (by simp [q3]))
      · cases q
  | .enum a, X, c, cc, h => by
    constructor <;> first | exact fun _ z => absurd z Bool.false_ne_true | exact fun _ _ z => absurd z Bool.false_ne_true | skip
    · intro t x q
      simp only [mt] at q
      split at q
      · simp only [Bool.and_eq_true] at q
        obtain ⟨⟨⟨q0, q1⟩, q2⟩, q4⟩ := q
        obtain ⟨e, g, _⟩ := glAt_of h q1
        subst e
        cases t <;> first | cases q0 | skip
        exact pid_enum h.K h.hd (sem_mono Γ a).l g (h.bi _ (by decide)) ((snd a h).lr _ q4) (star_cons q2)
      · cases q
    · intro t x q
      simp only [mt] at q
      split at q
      · simp only [Bool.and_eq_true] at q
        obtain ⟨⟨⟨q0, q1⟩, q2⟩, q4⟩ := q
        obtain ⟨e, g, _⟩ := glAt_of h q1
        subst e
        cases t <;> first | cases q0 | skip
        exact pjd_enum h.K (sem_mono Γ a).l g (h.bi _ (by decide)) ((snd a h).l _ q4) (star_cons q2)
      · cases q
end QL
namespace QL
open PySem PySem.Spec PyProof.Rows L2
/-! ### statements -/
inductive C where
  | nil
  | set (i : Nat) (e : E) (r : C) | own (i : Nat) (e : E) (r : C) | tgt (t : T) (e : E) (r : C) | par (i j : Nat) (a b : E) (r : C)
  | bset (s j : Nat) (e : E) (r : C) | bdm (s j i : Nat) (e : E) (r : C)
  | app (i : Nat) (e : E) (r : C) | ext (i : Nat) (e : E) (r : C) | put (i : Nat) (a e : E) (r : C) | rel (i : Nat) (r : C)
  | doc (r : C) | drop (e : E) (r : C) | ite (t : E) (a b r : C) | for_ (t : T) (it : E) (b r : C) | while_ (t : E) (b r : C)
  | ret (e : E) | retn | never | brk | cont
structure EnD where
  nx : En → DS → Prop
  rt : D → DS → Prop
  bk : En → DS → Prop := fun _ _ => False
  ct : En → DS → Prop := fun _ _ => False
def wFor (t : WT) (wb : EnD → En → DS → Prop) (D : EnD) : DS → En → DS → Prop
  | [], ρ, st => D.nx ρ st
  | d :: ds, ρ, st => t d ρ fun ρ1 => wb { nx := wFor t wb D ds, ct := wFor t wb D ds, bk := D.nx, rt := D.rt } ρ1 st
def wS (Γ : Nat → FS) : C → EnD → En → DS → Prop
  | .nil, D => D.nx
  | .set i e r, D => fun ρ st => (sem Γ e).e ρ st fun d st1 => wS Γ r D (ρ.set i (some d)) st1
  | .own i e r, D => fun ρ st => (sem Γ e).e ρ st fun d st1 => ∃ ds, d = .lst ds ∧ wS Γ r D (ρ.set i (some d)) st1
  | .tgt t e r, D => fun ρ st => (sem Γ e).e ρ st fun d st1 => t.sem.t d ρ fun ρ' => wS Γ r D ρ' st1
  | .par i j a b r, D => fun ρ st => (sem Γ a).e ρ st fun x st1 => (sem Γ b).e ρ st1 fun y st2 => wS Γ r D ((ρ.set i (some x)).set j (some y)) st2
  | .bset s j e r, D => fun ρ st => (sem Γ e).e ρ st fun d st1 => ρ[s]? = some (some .brook) ∧ j < st1.length ∧ isI d = true ∧ wS Γ r D ρ (st1.set j d)
  | .bdm s j i e r, D => fun ρ st => (sem Γ e).e ρ st fun d st1 => ∃ x y, d = .tup [x, y] ∧ ρ[s]? = some (some .brook) ∧ j < st1.length ∧ isI x = true ∧ wS Γ r D (ρ.set i (some y)) (st1.set j x)
  | .app i e r, D => fun ρ st => ∃ ds, ρ[i]? = some (some (.lst ds)) ∧ (sem Γ e).e ρ st fun d st1 => ds.length < sizeLine ∧ wS Γ r D (ρ.set i (some (.lst (ds ++ [d])))) st1
  | .ext i e r, D => fun ρ st => ∃ ds, ρ[i]? = some (some (.lst ds)) ∧ (sem Γ e).e ρ st fun d st1 => ∃ es, d = .lst es ∧ ds.length + es.length ≤ sizeLine ∧ wS Γ r D (ρ.set i (some (.lst (ds ++ es)))) st1
  | .put i a e r, D => fun ρ st => (sem Γ e).e ρ st fun d st1 => ∃ ds, ρ[i]? = some (some (.lst ds)) ∧ (sem Γ a).e ρ st1 fun k st2 => ∃ n j, k = .int n ∧ ixN ds.length n = some j ∧ wS Γ r D (ρ.set i (some (.lst (ds.set j d)))) st2
  | .rel _ r, D => wS Γ r D
  | .doc r, D => wS Γ r D
  | .drop e r, D => fun ρ st => (sem Γ e).e ρ st fun _ st1 => wS Γ r D ρ st1
  | .ite t a b r, D => fun ρ st => (sem Γ t).e ρ st fun x st1 => ∃ v, x = .bl v ∧ if v = true then wS Γ a { D with nx := wS Γ r D } ρ st1 else wS Γ b { D with nx := wS Γ r D } ρ st1
  | .for_ t it b r, D => fun ρ st => (sem Γ it).i ρ st fun ds st1 => wFor t.sem.t (fun D' => wS Γ b D') { D with nx := wS Γ r D } ds ρ st1
  | .while_ t b r, D => fun ρ st => ∃ W : Nat → En → DS → Prop, (∃ m, W m ρ st) ∧ ∀ m ρ st, W m ρ st → (sem Γ t).e ρ st fun x st1 => ∃ v, x = .bl v ∧
      if v = true then wS Γ b { nx := fun ρ' st' => ∃ m', m' < m ∧ W m' ρ' st', ct := fun ρ' st' => ∃ m', m' < m ∧ W m' ρ' st', bk := wS Γ r D, rt := D.rt } ρ st1 else wS Γ r D ρ st1
  | .ret e, D => fun ρ st => (sem Γ e).e ρ st D.rt
  | .retn, D => fun _ st => D.rt .non st
  | .never, _ => fun _ _ => False
  | .brk, D => D.bk
  | .cont, D => D.ct
/-! ### statements looked at beside the text -/
def notComp : Expr → Bool
  | .ListComp .. => false
  | .SetComp .. => false
  | .DictComp .. => false
  | _ => true
def isTup : Expr → Bool
  | .Tuple .. => true
  | _ => false
/-- a pair that is stored from the left, as any value -/
def noSwap (cc : CC) (tg v : Expr) : Bool := match tg, v with
  | .Tuple [.Name x _, .Name y _] _ _, .Tuple [u, w] _ _ => noStar u && noStar w && (!decide (cc.sc.names.lookup x = some .local) || !decide (cc.sc.names.lookup y = some .local))
  | _, _ => false
def mtC : C → CC → List Nat → List Nat → List Stmt → Bool
  | .nil, cc, M', Mb, body => match body with
    | [] => decide (cc.M = M')
    | _ => false
  | .set i e r, cc, M', Mb, body => match body with
    | .Assign [.Name x px] v pos :: rest => decide (cc.sc.kind = .function) && tgAt cc i x && (mt e cc).e v && mtC r cc M' Mb rest
    | _ => false
  | .own i e r, cc, M', Mb, body => match body with
    | .Assign [.Name x px] v pos :: rest => decide (cc.sc.kind = .function) && tgAt { cc with M := [] } i x && cc.M.contains i && (mt e cc).e v && e.fr && mtC r cc M' Mb rest
    | _ => false
  | .tgt t e r, cc, M', Mb, body => match body with
    | .Assign [tg] v pos :: rest => isTup tg && (!isTup v || noSwap cc tg v) && notComp v && noStar tg && (t.mt cc).t tg && (mt e cc).e v && mtC r cc M' Mb rest
    | _ => false
  | .par i j a b r, cc, M', Mb, body => match body with
    | .Assign [.Tuple [.Name x px, .Name y py] _ _] (.Tuple [u, v] _ _) _ :: rest => decide (cc.sc.kind = .function) && decide (cc.sc.names.lookup x = some .local) && decide (cc.sc.names.lookup y = some .local) && decide (px.line = py.line) && !decide (x = y) &&
      tgAt cc i x && tgAt cc j y && !decide (i = j) && noStar u && noStar v && !([u, v].all (foldedForSure 8)) && !([u, v].all (constantsAlone 8)) && (mt a cc).e u && (mt b cc).e v && mtC r cc M' Mb rest
    | _ => false
  | .bset s j e r, cc, M', Mb, body => match body with
    | .Assign [.Subscript (.Name x _) (.Constant (.int k) _ _) _] v _ :: rest => nmAt cc s x && !cc.M.contains s && decide (k = (j : Int)) && notComp v && !isTup v && (mt e cc).e v && mtC r cc M' Mb rest
    | _ => false
  | .bdm s j i e r, cc, M', Mb, body => match body with
    | .Assign [.Tuple [.Subscript (.Name x _) (.Constant (.int k) _ _) _, .Name y _] _ _] v _ :: rest => nmAt cc s x && !cc.M.contains s && decide (k = (j : Int)) && tgAt cc i y && !decide (s = i) && notComp v && !isTup v && (mt e cc).e v && mtC r cc M' Mb rest
    | _ => false
  | .app i e r, cc, M', Mb, body => match body with
    | .Expr (.Call (.Attribute (.Name x _) m ap) [v] [] cp) _ :: rest => decide (m = "append") && (ap.endLine == cp.line) && nmAt cc i x && cc.M.contains i && noStar v && (mt e cc).e v && mtC r cc M' Mb rest
    | _ => false
  | .ext i e r, cc, M', Mb, body => match body with
    | .Expr (.Call (.Attribute (.Name x _) m ap) [v] [] cp) _ :: rest => decide (m = "extend") && (ap.endLine == cp.line) && nmAt cc i x && cc.M.contains i && noStar v && (mt e cc).e v && mtC r cc M' Mb rest
    | _ => false
  | .put i a e r, cc, M', Mb, body => match body with
    | .Assign [.Subscript (.Name x _) u _] v _ :: rest => nmAt cc i x && cc.M.contains i && noSlice u && (mt a cc).r u && notComp v && !isTup v && (mt e cc).e v && mtC r cc M' Mb rest
    | _ => false
  | .rel i r, cc, M', Mb, rest => mtC r { cc with M := cc.M.filter (fun j => !(j == i)) } M' Mb rest
  | .doc r, cc, M', Mb, body => match body with
    | .Expr (.Constant (.str _) _ _) _ :: rest => mtC r cc M' Mb rest
    | .Pass _ :: rest => mtC r cc M' Mb rest
    | _ => false
  | .drop e r, cc, M', Mb, body => match body with
    | .Expr v _ :: rest => notComp v && (mt e cc).r v && mtC r cc M' Mb rest
    | _ => false
  | .ite t a b r, cc, M', Mb, body => match body with
    | .If u x y _ :: rest => (mt t cc).t u && mtC a cc cc.M Mb x && mtC b cc cc.M Mb y && mtC r cc M' Mb rest
    | _ => false
  | .for_ t it b r, cc, M', Mb, body => match body with
    | .For tg iter body [] _ :: rest => noSet iter && (t.mt cc).t tg && (mt it cc).j tg iter && mtC b cc cc.M cc.M body && mtC r cc M' Mb rest
    | _ => false
  | .while_ t b r, cc, M', Mb, body => match body with
    | .While u body [] _ :: rest => (mt t cc).t u && mtC b cc cc.M cc.M body && mtC r cc M' Mb rest
    | _ => false
  | .ret e, cc, M', Mb, body => match body with
    | .Return (some v) _ :: _ => (mt e cc).e v && (!cc.fr || e.fr)
    | _ => false
  | .retn, cc, M', Mb, body => match body with
    | .Return none _ :: _ => true
    | _ => false
  | .never, _, _, _, _ => true
  | .brk, cc, M', Mb, body => match body with
    | .Break _ :: _ => decide (cc.M = Mb)
    | _ => false
  | .cont, cc, M', Mb, body => match body with
    | .Continue _ :: _ => decide (cc.M = Mb)
    | _ => false
end QL
namespace QL
open PySem PySem.Spec PyProof.Rows L2
/-! ### states between statements -/
structure SOk (c : Fx) (Hb : Addr → Prop) (H0 : Hp) (O : Addr → Prop) (H : Hp) : Prop where
  hd : ∀ a, Hb a → O a
  fr : ∀ a, O a → Hb a ∨ H0 a = none
  gr : Gr c.β H0 H
abbrev Fx.re (c : Fx) (M : List Nat) : Fx := { c with M := M }
structure EndsOk (c : Fx) (M' Mb : List Nat) (Hb : Addr → Prop) (H0 : Hp) (D : EnD) (E : Ends) : Prop where
  nx : ∀ ρ st O σ H, D.nx ρ st → SOk c Hb H0 O H → At ((c.re M').wo O Hb) H σ ρ st → E.nx σ H
  rt : ∀ d st v H, D.rt d st → Gr c.β H0 H → QL.BrR c.K c.β Hb H Hb st → QL.Rep c.K c.β Hb H v d → (c.fr = true → Fresh (c.wo Hb Hb) H0 H v d) → E.rt v H
  bk : ∀ ρ st O σ H, D.bk ρ st → SOk c Hb H0 O H → At ((c.re Mb).wo O Hb) H σ ρ st → E.bk σ H
  ct : ∀ ρ st O σ H, D.ct ρ st → SOk c Hb H0 O H → At ((c.re Mb).wo O Hb) H σ ρ st → E.ct σ H
def tS (c : Fx) (M' Mb : List Nat) (w : EnD → En → DS → Prop) : TS := fun E σ H => ∃ Hb H0 D O ρ st, EndsOk c M' Mb Hb H0 D E ∧ SOk c Hb H0 O H ∧ At (c.wo O Hb) H σ ρ st ∧ w D ρ st
section
variable {X : Cx} {c : Fx} {cc : CC} {Γ : Nat → FS} {σ : L2.St} {H H0 H1 : Hp} {ρ : En} {st st1 : DS} {fr : Bool} {O Hb : Addr → Prop} {w : W}
theorem SOk.up (s : SOk c Hb H0 O H) (g : Gr c.β H H1) : SOk c Hb H0 O H1 := ⟨s.hd, s.fr, s.gr.trans g⟩
theorem S_use {Q : VK} {k : Post} (m : Mono w) (s : SOk c Hb H0 O H) (A : At (c.wo O Hb) H σ ρ st) (h : w ρ st k)
    (f : ∀ d st1 v H1, Gr c.β H H1 → rkE (c.wo O Hb) fr H H1 v d → SOk c Hb H0 O H1 → At (c.wo O Hb) H1 σ ρ st1 → k d st1 → Q v H1) : tEx c fr w σ H Q :=
  ⟨O, Hb, s.hd, tG_use m A h fun d st1 v H1 g r A1 hk => f d st1 v H1 g r (s.up g) A1 hk⟩
def tRx (c : Fx) (w : W) : TE := fun σ H Q => ∃ O Hd, (∀ a, Hd a → O a) ∧ tR (c.wo O Hd) w σ H Q
theorem pr_ex {e : Expr} (h : ∀ O Hd, (∀ a, Hd a → O a) → PE X e (tR (c.wo O Hd) w)) : PE X e (tRx c w) := ⟨fun pins s σ H Q I ⟨O, Hd, ho, q⟩ => (h O Hd ho).run pins s σ H Q I q⟩
theorem R_use {Q : VK} {k : Post} (m : Mono w) (s : SOk c Hb H0 O H) (A : At (c.wo O Hb) H σ ρ st) (h : w ρ st k)
    (f : ∀ d st1 v H1, Gr c.β H H1 → (c.wo O Hb).RepT H1 v d → SOk c Hb H0 O H1 → At (c.wo O Hb) H1 σ ρ st1 → k d st1 → Q v H1) : tRx c w σ H Q :=
  ⟨O, Hb, s.hd, tG_use m A h fun d st1 v H1 g r A1 hk => f d st1 v H1 g r (s.up g) A1 hk⟩
theorem pt_ex {e : Expr} (h : ∀ O Hd, (∀ a, Hd a → O a) → PT X e (tT (c.wo O Hd) w)) : PT X e (tTx c w) := ⟨fun pins s σ H Q I ⟨O, Hd, ho, q⟩ => (h O Hd ho).run pins s σ H Q I q⟩
theorem T_use {Q : Bool → Hp → Prop} {k : Post} (m : Mono w) (s : SOk c Hb H0 O H) (A : At (c.wo O Hb) H σ ρ st) (h : w ρ st k)
    (f : ∀ d st1, k d st1 → ∃ b, d = .bl b ∧ ∀ H1, SOk c Hb H0 O H1 → At (c.wo O Hb) H1 σ ρ st1 → Q b H1) : tTx c w σ H Q :=
  ⟨O, Hb, s.hd, tT_use m A h fun d st1 hk => let ⟨b, e, q⟩ := f d st1 hk; ⟨b, e, fun H1 g A1 => q H1 (s.up g) A1⟩⟩
def tLx (c : Fx) (ws : WL) : TA := fun σ H Q => ∃ O Hd, (∀ a, Hd a → O a) ∧ tL (c.wo O Hd) (c.wo O Hd).RepL ws σ H Q
theorem pl_ex {es : List Expr} {ws : WL} (h : ∀ O Hd, (∀ a, Hd a → O a) → PA X es (tL (c.wo O Hd) (c.wo O Hd).RepL ws)) : PA X es (tLx c ws) := ⟨fun p pins s σ H Q I ⟨O, Hd, ho, q⟩ => (h O Hd ho).run p pins s σ H Q I q⟩
def tJx (c : Fx) (w : WI) : TI := fun σ H R => ∃ O Hd, (∀ a, Hd a → O a) ∧ tX (c.wo O Hd) (RlK (c.wo O Hd)) w σ H R
theorem pj_ex {w : WI} {tg e : Expr} (h : ∀ O Hd, (∀ a, Hd a → O a) → PI X tg e (tX (c.wo O Hd) (RlK (c.wo O Hd)) w)) : PI X tg e (tJx c w) := ⟨fun pins s σ H R I ⟨O, Hd, ho, q⟩ => (h O Hd ho).run pins s σ H R I q⟩
theorem HX.wo (h : HX X c cc Γ) (O Hd : Addr → Prop) (ho : ∀ a, Hd a → O a) : HX X (c.wo O Hd) cc Γ := ⟨h.hN, h.nd, h.sc, h.fn, h.calm, h.K, h.M, h.fr, ho, h.u, h.bi, h.gi, h.cal⟩
theorem HX.reM (h : HX X c cc Γ) (M : List Nat) : HX X (c.re M) { cc with M := M } Γ := ⟨h.hN, h.nd, h.sc, h.fn, h.calm, h.K, rfl, h.fr, h.hd, h.u, h.bi, h.gi, h.cal⟩
theorem BrR.less {K : PySem.W.Frag} {β : Option Addr} {O' : Addr → Prop} {st : DS} (b : QL.BrR K β O H Hb st) (s : ∀ a, O' a → O a) (h : ∀ a, Hb a → O' a) : QL.BrR K β O' H Hb st := by
  unfold QL.BrR at b ⊢
  cases β with
  | none => exact b
  | some p =>
    obtain ⟨h1, vs, h2, h3, h4⟩ := b
    exact ⟨⟨h p h1.2, h1.2⟩, vs, h2, h3.lessO s, h4⟩
/-! lists of one's own -/
/-- a fresh list is put to a slot for such -/
theorem At.own {i : Nat} {v : V} {ds : DS} (A : At (c.wo O Hb) H σ ρ st) (hb : ∀ a, Hb a → O a) (g : Gr c.β H H1) (b1 : (c.wo O Hb).BrR H1 st1) (hi : i ∈ c.M) (f : Fresh (c.wo O Hb) H H1 v (.lst ds)) :
    ∃ a, v = .ref a ∧ H a = none ∧ At (c.wo (fun b => O b ∨ b = a) Hb) H1 (σ.set i (some v)) (ρ.set i (some (.lst ds))) st1 := by
  obtain ⟨a, vs, rfl, ha, h1, z, rl⟩ := f ds rfl
  refine ⟨a, rfl, ha, ?_⟩
  have mo : ∀ b, (O b ∨ b = a) → O b ∨ H b = none := fun b q => q.elim .inl fun e => .inr (e ▸ ha)
  have nO : ¬ O a := A.ok.no ha
  have bk : Bk c.β (fun b => O b ∨ b = a) Hb H := fun b e => ⟨⟨.inl (A.br.bk b e).1.1, (A.br.bk b e).1.2⟩, (A.br.bk b e).2⟩
  have ne : ∀ {b o}, H b = some o → b ≠ a := fun e z => by rw [z, ha] at e; cases e
  have ownAt : ∀ {j d b}, ρ[j]? = some (some d) → j ∈ c.M → σ[j]? = some (some (.ref b)) → b ≠ a := fun {j d b} e m q => by
    obtain ⟨b', q', _, _, _, _, _, h3, _⟩ := A.env.own j d e m
    rw [q'] at q
    injection q with q; injection q with q; injection q with q
    exact q ▸ ne h3
  refine ⟨⟨by rw [List.length_set, List.length_set]; exact A.env.len, fun j d e nj => ?_, fun j d e mj => ?_, fun j l d1 d2 b e1 e2 m1 m2 s1 s2 => ?_⟩, ?_, fun b q => ?_⟩
  · have hj : i ≠ j := fun z => nj (z ▸ hi)
    rw [List.getElem?_set_ne hj] at e
    obtain ⟨u, q1, q2⟩ := A.env.val j d e nj
    exact ⟨u, by rw [List.getElem?_set_ne hj]; exact q1, (q2.moreO mo).gr bk g⟩
  · by_cases hj : i = j
    · subst hj
      have hl : i < ρ.length := by
        rcases Nat.lt_or_ge i ρ.length with z | z
        · exact z
        · rw [List.getElem?_eq_none (by simpa using z)] at e; cases e
      rw [List.getElem?_set_self hl] at e
      cases e
      refine ⟨a, List.getElem?_set_self (by rw [A.env.len]; exact hl), .inr rfl, fun q => nO (hb a q), ds, vs, rfl, h1, z, rl⟩
    · rw [List.getElem?_set_ne hj] at e
      obtain ⟨b, q1, o1, o2, ds', vs', rfl, h3, z', r'⟩ := A.env.own j d e mj
      exact ⟨b, by rw [List.getElem?_set_ne hj]; exact q1, .inl o1, o2, ds', vs', rfl, g _ _ h3 (fun q => o2 (A.br.bk b q).1.2), z', (r'.moreO mo).gr bk g⟩
  · by_cases hj : i = j
    · by_cases hl : i = l
      · exact hj.symm.trans hl
      · exfalso
        rw [List.getElem?_set_ne hl] at e2 s2
        subst hj
        have hlen : i < σ.length := by
          rcases Nat.lt_or_ge i σ.length with z | z
          · exact z
          · rw [List.getElem?_eq_none (by simpa using z)] at s1; cases s1
        rw [List.getElem?_set_self hlen] at s1
        cases s1
        exact ownAt e2 m2 s2 rfl
    · by_cases hl : i = l
      · exfalso
        rw [List.getElem?_set_ne hj] at e1 s1
        subst hl
        have hlen : i < σ.length := by
          rcases Nat.lt_or_ge i σ.length with z | z
          · exact z
          · rw [List.getElem?_eq_none (by simpa using z)] at s2; cases s2
        rw [List.getElem?_set_self hlen] at s2
        cases s2
        exact ownAt e1 m1 s1 rfl
      · rw [List.getElem?_set_ne hj] at e1 s1
        rw [List.getElem?_set_ne hl] at e2 s2
        exact A.env.inj j l d1 d2 b e1 e2 m1 m2 s1 s2
  · obtain ⟨K, β, M, O0, Hd0⟩ := c
    cases β with
    | none => exact b1
    | some p =>
      obtain ⟨h2, us, h3, h4, h5⟩ := b1
      exact ⟨⟨.inl h2.1, h2.2⟩, us, h3, h4.leaf h5, h5⟩
  · rcases q with q | q
    · exact (OkO.gr (K := c.K) g b1 A.ok) b q
    · subst q
      exact ⟨vs, h1⟩
/-- a list of one's own, to be changed -/
theorem At.chg {i : Nat} {ds : DS} (A : At (c.wo O Hb) H σ ρ st) (hi : i ∈ c.M) (e : ρ[i]? = some (some (.lst ds))) :
    ∃ a vs, σ[i]? = some (some (.ref a)) ∧ O a ∧ ¬ Hb a ∧ H a = some (.lst vs) ∧ vs.length ≤ sizeLine ∧ QL.RepL c.K c.β O H vs ds ∧
      ∀ vs' ds', vs'.length ≤ sizeLine → QL.RepL c.K c.β O H vs' ds' → At (c.wo O Hb) (upd H a (.lst vs')) σ (ρ.set i (some (.lst ds'))) st := by
  obtain ⟨a, q1, o1, o2, ds0, vs, e0, h1, z, r⟩ := A.env.own i _ e hi
  cases e0
  refine ⟨a, vs, q1, o1, o2, h1, z, r, fun vs' ds' z' r' => ?_⟩
  have hl : i < ρ.length := (List.getElem?_eq_some_iff.mp e).1
  have nb : c.β ≠ some a := fun q => o2 (A.br.bk a q).1.2
  refine ⟨⟨by rw [List.length_set]; exact A.env.len, fun j d e' nj => ?_, fun j d e' mj => ?_, fun j l d1 d2 b e1 e2 m1 m2 s1 s2 => ?_⟩, ?_, fun b q => ?_⟩
  · have hj : i ≠ j := fun z => nj (z ▸ hi)
    rw [List.getElem?_set_ne hj] at e'
    obtain ⟨u, p1, p2⟩ := A.env.val j d e' nj
    exact ⟨u, p1, p2.wr h1 o1⟩
  · by_cases hj : i = j
    · subst hj
      rw [List.getElem?_set_self hl] at e'
      cases e'
      exact ⟨a, q1, o1, o2, ds', vs', rfl, upd_same, z', r'.wr h1 o1⟩
    · rw [List.getElem?_set_ne hj] at e'
      obtain ⟨b, p1, p2, p3, ds2, vs2, rfl, p4, p5, p6⟩ := A.env.own j d e' mj
      have nba : b ≠ a := fun z => hj (A.env.inj i j _ _ a e e' hi mj q1 (z ▸ p1))
      exact ⟨b, p1, p2, p3, ds2, vs2, rfl, by rw [upd_ne nba]; exact p4, p5, p6.wr h1 o1⟩
  · have key : ∀ {k dk}, (ρ.set i (some (.lst ds')))[k]? = some (some dk) → ∃ dk', ρ[k]? = some (some dk') := fun {k dk} q => by
      by_cases hk : i = k
      · subst hk
        exact ⟨_, e⟩
      · rw [List.getElem?_set_ne hk] at q
        exact ⟨_, q⟩
    obtain ⟨_, k1⟩ := key e1
    obtain ⟨_, k2⟩ := key e2
    exact A.env.inj j l _ _ b k1 k2 m1 m2 s1 s2
  · have b := A.br
    obtain ⟨K, β, M, O0, Hd0⟩ := c
    cases β with
    | none => exact b
    | some p =>
      obtain ⟨h2, us, h3, h4, h5⟩ := b
      have np : p ≠ a := fun z => nb (by rw [z])
      exact ⟨h2, us, by show upd H a _ p = _; rw [upd_ne np]; exact h3, h4.leaf h5, h5⟩
  · by_cases hb : b = a
    · subst hb
      exact ⟨vs', upd_same⟩
    · obtain ⟨us, q2⟩ := A.ok b q
      exact ⟨us, by rw [upd_ne hb]; exact q2⟩
theorem SOk.wr {a : Addr} {o : HO} {D : Addr → Prop} (s : SOk c Hb H0 O H) (oa : O a) (na : ¬ Hb a) : SOk c Hb H0 O (upd H a o) := ⟨s.hd, s.fr, fun b x e n => by
  have nb : b ≠ a := fun z => by
    rw [z] at e
    rcases s.fr a oa with q | q
    · exact na q
    · rw [q] at e; cases e
  rw [upd_ne nb]
  exact s.gr b x e n⟩
/-- a list of one's own is given away -/
theorem At.release (A : At (c.wo O Hb) H σ ρ st) (s : SOk c Hb H0 O H) (i : Nat) : ∃ O', SOk c Hb H0 O' H ∧ At ((c.re (c.M.filter fun j => !(j == i))).wo O' Hb) H σ ρ st := by
  by_cases hx : i ∈ c.M ∧ ∃ d, ρ[i]? = some (some d)
  · obtain ⟨hi, d, e⟩ := hx
    obtain ⟨a, q1, o1, o2, ds, vs, rfl, h1, z, r⟩ := A.env.own i d e hi
    have lo : ∀ b, (O b ∧ b ≠ a) → O b := fun b q => q.1
    have hb : ∀ b, Hb b → O b ∧ b ≠ a := fun b q => ⟨s.hd b q, fun z => o2 (z ▸ q)⟩
    refine ⟨fun b => O b ∧ b ≠ a, ⟨hb, fun b q => s.fr b q.1, s.gr⟩, ⟨⟨A.env.len, fun j d' e' nj => ?_, fun j d' e' mj => ?_, fun j l d1 d2 b e1 e2 m1 m2 s1 s2 => ?_⟩, A.br.less lo hb, fun b q => A.ok b q.1⟩⟩
    · by_cases hj : j = i
      · subst hj
        rw [e] at e'
        cases e'
        exact ⟨.ref a, q1, .lst z (fun q => q.2 rfl) h1 (r.lessO lo)⟩
      · have nj' : j ∉ c.M := fun q => nj (by
          show j ∈ c.M.filter fun j => !(j == i)
          simp [q, hj])
        obtain ⟨u, p1, p2⟩ := A.env.val j d' e' nj'
        exact ⟨u, p1, p2.lessO lo⟩
    · have mj : j ∈ c.M.filter fun j => !(j == i) := mj
      simp only [List.mem_filter, Bool.not_eq_true', beq_eq_false_iff_ne] at mj
      obtain ⟨b, p1, p2, p3, ds2, vs2, rfl, p4, p5, p6⟩ := A.env.own j d' e' mj.1
      exact ⟨b, p1, ⟨p2, fun z => mj.2 (A.env.inj j i _ _ a e' e mj.1 hi (z ▸ p1) q1)⟩, p3, ds2, vs2, rfl, p4, p5, p6.lessO lo⟩
    · have m1 : j ∈ c.M.filter fun j => !(j == i) := m1
      have m2 : l ∈ c.M.filter fun j => !(j == i) := m2
      exact A.env.inj j l d1 d2 b e1 e2 (List.mem_filter.mp m1).1 (List.mem_filter.mp m2).1 s1 s2
  · refine ⟨O, s, ⟨⟨A.env.len, fun j d' e' nj => ?_, fun j d' e' mj => ?_, fun j l d1 d2 b e1 e2 m1 m2 s1 s2 => ?_⟩, A.br, A.ok⟩⟩
    · by_cases hj : j ∈ c.M
      · have : j = i := by
          by_cases z : j = i
          · exact z
          · exact absurd (show j ∈ c.M.filter fun j => !(j == i) by simp [hj, z]) nj
        subst this
        exact absurd ⟨hj, d', e'⟩ hx
      · exact A.env.val j d' e' hj
    · have mj : j ∈ c.M.filter fun j => !(j == i) := mj
      exact A.env.own j d' e' (List.mem_filter.mp mj).1
    · have m1 : j ∈ c.M.filter fun j => !(j == i) := m1
      have m2 : l ∈ c.M.filter fun j => !(j == i) := m2
      exact A.env.inj j l d1 d2 b e1 e2 (List.mem_filter.mp m1).1 (List.mem_filter.mp m2).1 s1 s2
/-- the brook is written -/
theorem At.brSet {i j : Nat} {d : D} {v : V} (A : At (c.wo O Hb) H σ ρ st) (hi : i ∉ c.M) (e : ρ[i]? = some (some .brook)) (hj : j < st.length) (hd : isI d = true) (r : QL.Rep c.K c.β O H v d) :
    ∃ p vs, σ[i]? = some (some (.ref p)) ∧ c.β = some p ∧ H p = some (.lst vs) ∧ ixN vs.length (j : Int) = some j ∧ At (c.wo O Hb) (upd H p (.lst (vs.set j v))) σ ρ (st.set j d) := by
  obtain ⟨b, vs, hb, hs, hl, hr⟩ := brook_at A hi e
  have oh := A.br.bk b hb
  refine ⟨b, vs, hs, hb, hl, ?_, ⟨⟨A.env.len, fun j d e n => ?_, fun j d e n => ?_, A.env.inj⟩, ?_, fun a h => ?_⟩⟩
  · have hz : j < vs.length := by rw [hr.length]; exact hj
    unfold ixN
    rw [if_pos (Int.natCast_nonneg j), if_pos (by omega)]
    simp
  · obtain ⟨u, q1, q2⟩ := A.env.val j d e n
    exact ⟨u, q1, q2.wr hl oh.1.1⟩
  · obtain ⟨a, q1, h1, h2, ds, ws, rfl, h3, z, h4⟩ := A.env.own j d e n
    have na : a ≠ b := fun z => h2 (z ▸ oh.1.2)
    exact ⟨a, q1, h1, h2, ds, ws, rfl, by rw [upd_ne na]; exact h3, z, h4.wr hl oh.1.1⟩
  · have br := A.br
    obtain ⟨K, β, M, O0, Hd0⟩ := c
    cases hb
    obtain ⟨h1, us, h2, h3, h4⟩ := br
    rw [hl] at h2
    cases h2
    refine ⟨h1, _, upd_same, (hr.set j r).wr hl h1.1, ?_⟩
    rw [List.all_eq_true] at h4 ⊢
    intro x hx
    rcases List.mem_or_eq_of_mem_set hx with z | z
    · exact h4 x z
    · rw [z]; exact hd
  · by_cases q : a = b
    · subst q; exact ⟨_, upd_same⟩
    · obtain ⟨us, q2⟩ := A.ok a h
      exact ⟨us, by rw [upd_ne q]; exact q2⟩
theorem SOk.brSet {p : Addr} {o : HO} (s : SOk c Hb H0 O H) (hp : c.β = some p) : SOk c Hb H0 O (upd H p o) := ⟨s.hd, s.fr, fun b x e n => by
  have nb : b ≠ p := fun z => n (by rw [hp, z])
  rw [upd_ne nb]
  exact s.gr b x e n⟩
theorem Fresh.base {v : V} {d : D} (s : SOk c Hb H0 O H) (bk : Bk c.β O Hb H) (f : Fresh (c.wo O Hb) H H1 v d) : Fresh (c.wo Hb Hb) H0 H1 v d := fun ds e => by
  obtain ⟨a, vs, e1, ha, h1, z, rl⟩ := f ds e
  refine ⟨a, vs, e1, ?_, h1, z, rl.lessO fun b q => q.elim (fun q => .inl (s.hd b q)) .inr⟩
  cases q : H0 a with
  | none => rfl
  | some o =>
    by_cases hb : c.β = some a
    · obtain ⟨_, us, q2⟩ := bk a hb
      rw [ha] at q2; cases q2
    · rw [s.gr a o q hb] at ha; cases ha
/-- the heap where a loop starts, without what is one's own -/
noncomputable def cutH (O Hb : Addr → Prop) (H : Hp) : Hp := fun a => by
  classical exact if O a ∧ ¬ Hb a then none else H a
theorem cutH_some {a : Addr} {o : HO} (h : cutH O Hb H a = some o) : H a = some o ∧ ¬ (O a ∧ ¬ Hb a) := by
  unfold cutH at h
  split at h
  · cases h
  · rename_i n
    exact ⟨h, n⟩
theorem cutH_of {a : Addr} {o : HO} (h : H a = some o) (n : ¬ (O a ∧ ¬ Hb a)) : cutH O Hb H a = some o := by
  unfold cutH
  rw [if_neg n]
  exact h
theorem cutH_none {a : Addr} (h : cutH O Hb H a = none) : (O a ∧ ¬ Hb a) ∨ H a = none := by
  unfold cutH at h
  split at h
  · rename_i n; exact .inl n
  · exact .inr h
theorem fresh_cut {v : V} {d : D} (s : SOk c Hb H0 O H) (bk : Bk c.β O Hb H) (f : Fresh (c.wo Hb Hb) (cutH O Hb H) H1 v d) : Fresh (c.wo Hb Hb) H0 H1 v d := fun ds e => by
  obtain ⟨a, vs, e1, ha, h1, z, rl⟩ := f ds e
  refine ⟨a, vs, e1, ?_, h1, z, rl⟩
  cases q : H0 a with
  | none => rfl
  | some o =>
    rcases cutH_none ha with w | w
    · rcases s.fr a w.1 with u | u
      · exact absurd u w.2
      · rw [q] at u; cases u
    · by_cases hb : c.β = some a
      · obtain ⟨_, us, q2⟩ := bk a hb
        rw [w] at q2; cases q2
      · rw [s.gr a o q hb] at w; cases w
theorem SOk.loop (s : SOk c Hb H0 O H) : SOk c Hb (cutH O Hb H) O H := by
  refine ⟨s.hd, fun a o => ?_, fun b x e _ => (cutH_some e).1⟩
  by_cases h : Hb a
  · exact .inl h
  · refine .inr ?_
    unfold cutH
    rw [if_pos ⟨o, h⟩]
theorem SOk.cutGr (s : SOk c Hb H0 O H) {H2 : Hp} (g : Gr c.β (cutH O Hb H) H2) : Gr c.β H0 H2 := fun b x e n => by
  refine g b x (cutH_of (s.gr b x e n) fun q => ?_) n
  rcases s.fr b q.1 with z | z
  · exact q.2 z
  · rw [z] at e; cases e
theorem SOk.back {O2 : Addr → Prop} {H2 : Hp} (s : SOk c Hb H0 O H) (bk : Bk c.β O Hb H) (s2 : SOk c Hb (cutH O Hb H) O2 H2) : SOk c Hb H0 O2 H2 := by
  refine ⟨s2.hd, fun a o => ?_, s.cutGr s2.gr⟩
  rcases s2.fr a o with z | z
  · exact .inl z
  · rcases cutH_none z with z | z
    · exact s.fr a z.1
    · cases q : H0 a with
      | none => exact .inr rfl
      | some u =>
        by_cases hb : c.β = some a
        · exact .inl (bk a hb).1.2
        · rw [s.gr a u q hb] at z; cases z
end
end QL
namespace QL
open PySem PySem.Spec PyProof.Rows L2
theorem swap_some {x y : Str} {px py pt pt2 : Pos} {kt k2 : Nat} {u v : Expr} {env : Env} (hk : env.blockKind = .function) (kx : env.kindOf x = some .local) (ky : env.kindOf y = some .local) (hl : px.line = py.line) (hxy : x ≠ y) (su : noStar u = true) (sv : noStar v = true)
    (hf : [u, v].all (foldedForSure 8) = false) (hc : [u, v].all (constantsAlone 8) = false) : swappedStores [.Tuple [.Name x px, .Name y py] kt pt] (.Tuple [u, v] k2 pt2) env = pure (some [x, y]) := by
  have n2 : [x, y].eraseDups.length = 2 := by
    have : (y == x) = false := by simpa using fun e => hxy e.symm
    simp [List.eraseDups_cons, this]
  have b1 : (env.blockKind != .function) = false := by rw [hk]; rfl
  have q1 : (some NameKind.local == some NameKind.local) = true := rfl
  unfold swappedStores
  simp only [List.length_cons, List.length_nil, b1, List.any_cons, List.any_nil, hf, hc, List.head?_cons, Option.map_some, Option.getD_some, pure_bind]
  rw [if_neg (by decide), if_neg (by
    intro z
    simp only [Bool.or_eq_true, Bool.or_false] at z
    rcases z with z | z
    · cases u <;> first | exact absurd z Bool.false_ne_true | exact absurd su Bool.false_ne_true
    · cases v <;> first | exact absurd z Bool.false_ne_true | exact absurd sv Bool.false_ne_true)]
  simp only [List.filterMap_cons, List.filterMap_nil, Expr.pos, kx, ky, hl, q1, beq_self_eq_true, Bool.and_self, if_true, n2, List.length_cons, List.length_nil]
  rw [if_neg (by decide), if_neg (by decide), if_neg (by decide)]
theorem swap_none {x y : Str} {px py pt pt2 : Pos} {kt k2 : Nat} {u v : Expr} {env : Env} (h : env.kindOf x ≠ some .local ∨ env.kindOf y ≠ some .local) : swappedStores [.Tuple [.Name x px, .Name y py] kt pt] (.Tuple [u, v] k2 pt2) env = pure none := by
  have b : (env.kindOf x == some NameKind.local) = false ∨ (env.kindOf y == some NameKind.local) = false := by
    rcases h with h | h
    · exact .inl (by simpa using h)
    · exact .inr (by simpa using h)
  unfold swappedStores
  simp only [List.length_cons, List.length_nil, List.head?_cons, Option.map_some, Option.getD_some, pure_bind]
  split
  · rfl
  · split
    · rfl
    · refine if_pos ?_
      rcases h with h | h
      · by_cases e : env.kindOf y = some NameKind.local ∧ py.line = px.line <;> simp [List.filterMap_cons, Expr.pos, h, e]
      · by_cases e : env.kindOf x = some NameKind.local <;> simp [List.filterMap_cons, Expr.pos, h, e]
section
variable {X : Cx} {c : Fx} {cc : CC} {Γ : Nat → FS}
theorem noSwap_of {tg v : Expr} (h : HX X c cc Γ) (q : noSwap cc tg v = true) : swappedStores [tg] v X.env = pure none := by
  unfold noSwap at q
  split at q
  · simp only [Bool.and_eq_true, Bool.or_eq_true, Bool.not_eq_true', decide_eq_false_iff_not] at q
    refine swap_none ?_
    have e : ∀ x, X.env.kindOf x = cc.sc.names.lookup x := fun x => by show X.env.scope.names.lookup x = _; rw [h.sc]
    rw [e, e]
    exact q.2
  · cases q
theorem swapsWith_no {e : Expr} {t : Option Expr} {l : Nat} {env : Env} (h : notComp e = true) : swapsWith e t l env = pure false := by
  cases e <;> first | rfl | cases h
theorem swapsSole_no {t e : Expr} {l : Nat} {env : Env} (h : notComp e = true) : swapsWithSole [t] e l env = pure false := swapsWith_no (t := some t) (l := l) (env := env) h
theorem swapped_no {t e : Expr} {env : Env} (h : isTup e = false) : swappedStores [t] e env = pure none := by
  cases e <;> first | (cases t <;> rfl) | cases h
/-- name = e, e any, a comprehension too -/
theorem ps_setE (h : HX X c cc Γ) {i : Nat} {x : Str} {px pos : Pos} {v : Expr} {e : E} (hk : cc.sc.kind = .function) (hi : cc.N[i]? = some x) (hx : loc cc.sc x = true) (hf : X.fn x = true ∨ X.env.scope.names.lookup x = some .local) (q : (mt e cc).e v = true) :
    PS X (.Assign [.Name x px] v pos) (tAsg (tEx c e.fr (sem Γ e).e) (gName i)) := by
  have hN : X.N.Nodup := by rw [h.hN]; exact h.nd
  have hi' : X.N[i]? = some x := by rw [h.hN]; exact hi
  have hx' : Loc X.env.scope x := by rw [h.sc]; exact loc_of hx
  have plain : swapsWith v (some (.Name x px)) pos.line X.env = pure false → PS X (.Assign [.Name x px] v pos) (tAsg (tEx c e.fr (sem Γ e).e) (gName i)) := fun hs =>
    ps_set hN hi' hx' (pe_ex fun O Hd ho => (snd e (h.wo O Hd ho)).e v q) hs hf
  by_cases hn : notComp v = true
  · exact plain (swapsWith_no hn)
  · cases v <;> first | exact absurd rfl hn | skip
    · rename_i elt gens scope p
      have bk : X.env.blockKind = .function := by
        unfold Env.blockKind
        rw [h.sc, hk]; rfl
      generalize hB : (X.env.blockKind == .function && X.env.kindOf x == some .local && px.line == p.line && !(scope.names.any fun (n, k) => n == x && (k == .local || k == .cell))) = B
      have sw : swapsWith (.ListComp elt gens scope p) (some (.Name x px)) pos.line X.env = pure B := by rw [← hB]; rfl
      cases B with
      | false => exact plain sw
      | true =>
        have hl : X.env.kindOf x = some .local := by
          simp only [Bool.and_eq_true, beq_iff_eq] at hB
          exact hB.1.1.2
        cases e <;> first | exact absurd q Bool.false_ne_true | skip
        case lc own t it ts e =>
          simp only [mt, Mt.ofE, Mt.of] at q
          split at q
          · rename_i elt' tg iter ifs scope' pos' heq
            cases heq
            simp only [Bool.and_eq_true, List.all_eq_true] at q
            obtain ⟨⟨⟨⟨⟨⟨q1, q2⟩, q3⟩, q4⟩, q5⟩, q6⟩, q7⟩ := q
            have hb := fun (s : Shared) (H : Hp) (C : Addr) (cl : List (Str × Addr)) (fp : List Addr) (O Hd : Addr → Prop) (ho : ∀ a, Hd a → O a) => h.blk s H scope C cl fp O Hd ho
            refine PSimp (ps_setLc (g := (t.g X.K).t) h.calm hN hi' hl sw (pi_ex fun O Hd ho => (snd it (h.wo O Hd ho)).i _ _ q3) (by rw [h.hN, h.sc]; exact blkB_of q1) (fun s H C cl fp => (T.pg (hb s H C cl fp c.O c.Hd h.hd) t).1 _ q4)
              (fun s H C cl fp => pts_ex fun O Hd ho => (snd ts (hb s H C cl fp O Hd ho)).ts _ q6) (fun s H C cl fp => pe_ex fun O Hd ho => (snd e (hb s H C cl fp O Hd ho)).e _ q7) (noSet_of q2)) fun D σ H ⟨O, Hd, ho, w⟩ => ?_
            have z := lc_go (c := c.wo O Hd) (fr := e.fr) (g := (t.g X.K).t) (sl := t.sl) ho (sem_mono Γ it).i t.mono.1 (sem_mono Γ ts).t (sem_mono Γ e).e ((T.ok (c := c.wo O Hd) (cc := cc.blk scope) h.M h.K t).1 _ q4) (fun i hi => by simpa using q5 i hi) w
            exact ⟨O, Hd, ho, z⟩
          · cases q
        case lc2 own t it ts vs t1 it1 ts1 e =>
          simp only [mt, Mt.ofE, Mt.of] at q
          split at q
          · rename_i elt' tg iter ifs tg1 iter1 ifs1 scope' pos' heq
            cases heq
            simp only [Bool.and_eq_true, List.all_eq_true] at q
            obtain ⟨⟨⟨⟨⟨⟨⟨⟨⟨⟨⟨⟨q1, q2⟩, q2'⟩, q3⟩, q4⟩, q5⟩, q6⟩, q7⟩, q8⟩, q9⟩, q10⟩, q11⟩, q12⟩ := q
            have hb := fun (s : Shared) (H : Hp) (C : Addr) (cl : List (Str × Addr)) (fp : List Addr) (O Hd : Addr → Prop) (ho : ∀ a, Hd a → O a) => h.blk s H scope C cl fp O Hd ho
            refine PSimp (ps_setLc2 (g := (t.g X.K).t) (g1 := (t1.g X.K).t) h.calm hN hi' hl sw (pi_ex fun O Hd ho => (snd it (h.wo O Hd ho)).i _ _ q3) (by rw [h.hN, h.sc]; exact blkB_of q1) (fun i hi => by simpa using q7 i hi) (fun s H C cl fp => (T.pg (hb s H C cl fp c.O c.Hd h.hd) t).1 _ q4)
              (fun s H C cl fp => pts_ex fun O Hd ho => (snd ts (hb s H C cl fp O Hd ho)).ts _ q6) (fun s H C cl fp => pi_ex fun O Hd ho => (snd it1 (hb s H C cl fp O Hd ho)).i _ _ q8) (fun s H C cl fp => (T.pg (hb s H C cl fp c.O c.Hd h.hd) t1).1 _ q9)
              (fun s H C cl fp => pts_ex fun O Hd ho => (snd ts1 (hb s H C cl fp O Hd ho)).ts _ q11) (fun s H C cl fp => pe_ex fun O Hd ho => (snd e (hb s H C cl fp O Hd ho)).e _ q12) (noSet_of q2) (fun env => noSet_of q2')) fun D σ H ⟨O, Hd, ho, w⟩ => ?_
            have z := lc2_go (c := c.wo O Hd) (fr := e.fr) (g := (t.g X.K).t) (g1 := (t1.g X.K).t) (sl := t.sl) (sl1 := t1.sl) ho (sem_mono Γ it).i t.mono.1 (sem_mono Γ ts).t (sem_mono Γ it1).i t1.mono.1 (sem_mono Γ ts1).t (sem_mono Γ e).e
              ((T.ok (c := c.wo O Hd) (cc := cc.blk scope) h.M h.K t).1 _ q4) (fun i hi => by simpa using q5 i hi) ((T.ok (c := c.wo O Hd) (cc := cc.blk scope) h.M h.K t1).1 _ q9) (fun i hi => by simpa using q10 i hi) w
            exact ⟨O, Hd, ho, z⟩
          · cases q
    all_goals
      exfalso
      cases e <;> first | exact Bool.false_ne_true q | skip
      all_goals
        simp only [mt, Mt.ofE, Mt.of] at q
        first | exact Bool.false_ne_true q | (split at q <;> first | exact Bool.false_ne_true q | skip)
end
end QL
namespace QL
open PySem PySem.Spec PyProof.Rows L2
section
variable {X : Cx} {c : Fx} {cc : CC} {Γ : Nat → FS} {σ : L2.St} {H H0 H1 : Hp} {ρ : En} {st st1 : DS} {fr : Bool} {O Hb : Addr → Prop} {w : W}
theorem PSsimp {sm : List Stmt} {t t' : TS} (h : PSs X sm t) (f : ∀ E σ H, t' E σ H → t E σ H) : PSs X sm t' := ⟨fun pins s σ H E I q => h.run pins s σ H E I (f _ _ _ q)⟩
theorem L_use {ws : WL} {Q : List V → Hp → Prop} {k : DS → DS → Prop} (m : MonoL ws) (s : SOk c Hb H0 O H) (A : At (c.wo O Hb) H σ ρ st) (h : ws ρ st k)
    (f : ∀ ds st1 vs H1, (c.wo O Hb).RepL H1 vs ds → SOk c Hb H0 O H1 → At (c.wo O Hb) H1 σ ρ st1 → k ds st1 → Q vs H1) : tLx c ws σ H Q :=
  ⟨O, Hb, s.hd, tL_use m A h fun ds st1 vs H1 g r A1 hk => f ds st1 vs H1 r (s.up g) A1 hk⟩
theorem contains_of {M : List Nat} {i : Nat} (h : M.contains i = true) : i ∈ M := by
  rw [List.contains_eq_mem] at h
  simpa using h
theorem contains_no {M : List Nat} {i : Nat} (h : M.contains i = false) : i ∉ M := fun z => by
  rw [List.contains_eq_mem] at h
  simp [z] at h
theorem tgAt_of {i : Nat} {x : Str} (h : HX X c cc Γ) (q : tgAt cc i x = true) : cc.N[i]? = some x ∧ loc cc.sc x = true ∧ (X.fn x = true ∨ X.env.scope.names.lookup x = some .local) ∧ i ∉ c.M := by
  unfold tgAt at q
  simp only [Bool.and_eq_true, decide_eq_true_eq, Bool.or_eq_true, Bool.not_eq_true'] at q
  refine ⟨q.1.1.1, q.1.1.2, ?_, by rw [h.M]; exact contains_no q.2⟩
  rw [h.fn, h.sc]
  exact q.1.2
/-- a list of one's own is looked at -/
theorem ownRef {i : Nat} {ds : DS} (A : At (c.wo O Hb) H σ ρ st) (hi : i ∈ c.M) (e : ρ[i]? = some (some (.lst ds))) : ∃ a vs, σ[i]? = some (some (.ref a)) ∧ H a = some (.lst vs) := by
  obtain ⟨a, vs, h1, _, _, h2, _⟩ := A.chg hi e
  exact ⟨a, vs, h1, h2⟩
theorem ownBar {a : Addr} (s : SOk c Hb H0 O H) (bk : Bk c.β O Hb H) (ha : H a = none) (s1 : SOk c Hb H0 O H1) : SOk c Hb H0 (fun b => O b ∨ b = a) H1 := by
  refine ⟨fun b q => .inl (s.hd b q), fun b q => ?_, s1.gr⟩
  rcases q with q | q
  · exact s.fr b q
  · subst q
    refine .inr ?_
    cases z : H0 b with
    | none => rfl
    | some o =>
      by_cases hb : c.β = some b
      · obtain ⟨_, vs, q⟩ := bk b hb
        rw [ha] at q; cases q
      · rw [s.gr b o z hb] at ha; cases ha
theorem forD {t : WT} {g : TG} {sl : List Nat} {wb : EnD → En → DS → Prop} {tb : TS} {J : It} {D : EnD} {E : Ends} {Mb : List Nat} {ds : DS} (hgt : TgOk c g t sl) (en : EndsOk c c.M Mb Hb H0 D E) (s : SOk c Hb H0 O H) (A : At (c.wo O Hb) H σ ρ st)
    (src : Src (c.wo O Hb) (RlK (c.wo O Hb)) J H ds) (hw : wFor t wb D ds ρ st) (hb : ∀ E σ H, tS c c.M c.M wb E σ H → tb E σ H) :
    ∃ W : Nat → Nat → L2.St → Hp → Prop, (∃ m, W 0 m σ H) ∧ ∀ i m σ H, W i m σ H →
      (J.stop i H ∧ E.nx σ H) ∨ (J.go i H ∧ ∃ N : L2.St → Hp → Prop, (∀ σ' H', N σ' H' → ∃ m', m' < m ∧ W (i + 1) m' σ' H') ∧ ∀ x H', J.yld i H x H' → g x σ H' fun σ2 H2 => tb { E with nx := N, ct := N, bk := E.nx } σ2 H2) := by
  obtain ⟨zl, G, Y, wk, hG, yy⟩ := src
  have bk := A.br.bk
  have kp : ∀ {O2 H2}, SOk c Hb (cutH O Hb H) O2 H2 → RlK (c.wo O Hb) H H2 := fun {O2 H2} s2 => ⟨fun b o e n => s2.gr b o (cutH_of e fun q => n q.1) fun z => n (bk b z).1.1, A.ok⟩
  refine for_it (tb := tb) wk (fun i σ2 H2 => ∃ O2 ρ2 st2, SOk c Hb (cutH O Hb H) O2 H2 ∧ At (c.wo O2 Hb) H2 σ2 ρ2 st2 ∧ wFor t wb D (ds.drop i) ρ2 st2) ⟨O, ρ, st, s.loop, A, hw⟩ (fun i σ2 H2 _ ⟨O2, ρ2, st2, s2, _⟩ => hG H2 (kp s2)) ?_ ?_
  · intro i x σ2 H2 H3 hi ⟨O2, ρ2, st2, s2, A2, hf⟩ hy
    have hd : ds[i]? = some ds[i] := List.getElem?_eq_getElem hi
    obtain ⟨sm, rx⟩ := yy (fun a => O a ∨ O2 a) (fun a q => .inl q) (fun a q => by
      rcases q with q | q
      · exact .inl q
      · rcases s2.fr a q with z | z
        · exact .inl (s.hd a z)
        · rcases cutH_none z with z | z
          · exact .inl z.1
          · exact .inr z) i H2 x H3 _ hd (kp s2) hy
    rw [drop_at hd] at hf
    have g3 : Gr c.β H2 H3 := Gr.of sm
    have A3 : At (c.wo O2 Hb) H3 σ2 ρ2 st2 := A2.gr g3 (br_same (c := c.wo O2 Hb) sm A2.br)
    refine hgt.run O2 Hb x _ _ H3 _ st2 _ _ A3 (rx.lessO fun a q => .inr q) hf fun ρ' σ' A' _ _ hk => hb _ _ _ ?_
    refine ⟨Hb, cutH O Hb H, { nx := wFor t wb D (ds.drop (i + 1)), ct := wFor t wb D (ds.drop (i + 1)), bk := D.nx, rt := D.rt }, O2, ρ', st2, ⟨fun ρ st O σ H hD so At' => ⟨O, ρ, st, so, At', hD⟩, fun d st v H' hD gr br rv fv => en.rt d st v H' hD (s.cutGr gr) br rv fun z => fresh_cut s bk (fv z), fun ρ st O σ H hD so At' => en.nx ρ st O σ H hD (s.back bk so) At', fun ρ st O σ H hD so At' => ⟨O, ρ, st, so, At', hD⟩⟩, s2.up g3, A', hk⟩
  · intro σ2 H2 ⟨O2, ρ2, st2, s2, A2, hf⟩
    rw [List.drop_length] at hf
    exact en.nx ρ2 st2 O2 σ2 H2 hf (s.back bk s2) A2
end
theorem sndC {Γ : Nat → FS} : ∀ (k : C) {X : Cx} {c : Fx} {cc : CC} (M' Mb : List Nat) (body : List Stmt), HX X c cc Γ → (X.xe = fun _ _ => False) → mtC k cc M' Mb body = true → PSs X body (tS c M' Mb (wS Γ k))
  | .nil, X, c, cc, M', Mb, body, h, hx, q => by
    simp only [mtC] at q
    split at q
    case h_2 => cases q
    have e := of_decide_eq_true q
    refine PSsimp pss_nil fun E σ H ⟨Hb, H0, D, O, ρ, st, en, s, A, w⟩ => ?_
    exact en.nx ρ st O σ H w s (by rw [← e, ← h.M]; exact A)
  | .set i e r, X, c, cc, M', Mb, body, h, hx, q => by
    simp only [mtC] at q
    split at q
    · simp only [Bool.and_eq_true, decide_eq_true_eq] at q
      obtain ⟨⟨⟨q0, q1⟩, q2⟩, q3⟩ := q
      obtain ⟨t1, t2, t3, t4⟩ := tgAt_of h q1
      refine PSsimp (pss_cons (ps_setE h q0 t1 t2 t3 q2) (sndC r M' Mb _ h hx q3)) fun E σ H ⟨Hb, H0, D, O, ρ, st, en, s, A, w⟩ => ?_
      exact S_use (sem_mono Γ e).e s A w fun d st1 v H1 g rv s1 A1 hk => ⟨Hb, H0, D, O, _, st1, en, s1, ⟨A1.env.set t4 rv.1, A1.br, A1.ok⟩, hk⟩
    · cases q
  | .own i e r, X, c, cc, M', Mb, body, h, hx, q => by
    simp only [mtC] at q
    split at q
    · simp only [Bool.and_eq_true, decide_eq_true_eq] at q
      obtain ⟨⟨⟨⟨⟨q0, q1⟩, q1'⟩, q2⟩, q2'⟩, q3⟩ := q
      obtain ⟨t1, t2, t3, _⟩ := tgAt_of (h.reM []) q1
      have hi : i ∈ c.M := by rw [h.M]; exact contains_of q1'
      refine PSsimp (pss_cons (ps_setE h q0 t1 t2 t3 q2) (sndC r M' Mb _ h hx q3)) fun E σ H ⟨Hb, H0, D, O, ρ, st, en, s, A, w⟩ => ?_
      refine S_use (sem_mono Γ e).e s A w fun d st1 v H1 g rv s1 A1 ⟨ds, ed, hk⟩ => ?_
      subst ed
      obtain ⟨a, rfl, ha, A2⟩ := A.own s.hd g A1.br hi (rv.2 q2')
      exact ⟨Hb, H0, D, _, _, st1, en, ownBar s A.br.bk ha s1, A2, hk⟩
    · cases q
  | .tgt t e r, X, c, cc, M', Mb, body, h, hx, q => by
    simp only [mtC] at q
    split at q
    · simp only [Bool.and_eq_true, Bool.not_eq_true', Bool.or_eq_true] at q
      obtain ⟨⟨⟨⟨⟨⟨q0, q1⟩, q2⟩, q3⟩, q4⟩, q5⟩, q6⟩ := q
      refine PSsimp (pss_cons (ps_asg (pe_ex fun O Hd ho => (snd e (h.wo O Hd ho)).e _ q5) ((T.pg h t).1 _ q4) (swapsSole_no q2) (q1.elim swapped_no (noSwap_of h)) (by rw [assignEach_cons q3]; rfl)) (sndC r M' Mb _ h hx q6)) fun E σ H ⟨Hb, H0, D, O, ρ, st, en, s, A, w⟩ => ?_
      refine S_use (sem_mono Γ e).e s A w fun d st1 v H1 g rv s1 A1 hk => ?_
      exact ((T.ok h.M h.K t).1 _ q4).run O Hb v d σ H1 ρ st1 _ _ A1 rv.1 hk fun ρ' σ' A' _ _ hk' => ⟨Hb, H0, D, O, ρ', st1, en, s1, A', hk'⟩
    · cases q
  | .par i j a b r, X, c, cc, M', Mb, body, h, hx, q => by
    simp only [mtC] at q
    split at q
    · simp only [Bool.and_eq_true, Bool.not_eq_true', decide_eq_true_eq, decide_eq_false_iff_not] at q
      obtain ⟨⟨⟨⟨⟨⟨⟨⟨⟨⟨⟨⟨⟨⟨q0, q1⟩, q2⟩, q3⟩, q4⟩, q5⟩, q6⟩, q7⟩, q8⟩, q9⟩, q10⟩, q11⟩, q12⟩, q13⟩, q14⟩ := q
      obtain ⟨t1, t2, t3, t4⟩ := tgAt_of h q5
      obtain ⟨u1, u2, u3, u4⟩ := tgAt_of h q6
      have bkf : X.env.blockKind = .function := by
        unfold Env.blockKind
        rw [h.sc, q0]; rfl
      refine PSsimp (pss_cons (ps_par (i := i) (j := j) h.calm (by rw [h.hN]; exact h.nd) (by rw [h.hN]; exact t1) (by rw [h.hN]; exact u1) q7 (by rw [h.sc]; exact q1) (by rw [h.sc]; exact q2)
        (pl_ex (ws := wCons (sem Γ a).e (wCons (sem Γ b).e wNil)) fun O Hd ho => pl_cons (sem_mono Γ a).e (wCons_mono (sem_mono Γ b).e wNil_mono) ((snd a (h.wo O Hd ho)).e _ q12) (pl_cons (sem_mono Γ b).e wNil_mono ((snd b (h.wo O Hd ho)).e _ q13) pl_nil (star_cons q9)) (star_cons q8))
        (swap_some bkf (by show X.env.scope.names.lookup _ = _; rw [h.sc]; exact q1) (by show X.env.scope.names.lookup _ = _; rw [h.sc]; exact q2) q3 q4 q8 q9 q10 q11)) (sndC r M' Mb _ h hx q14)) fun E σ H ⟨Hb, H0, D, O, ρ, st, en, s, A, w⟩ => ?_
      refine L_use (wCons_mono (sem_mono Γ a).e (wCons_mono (sem_mono Γ b).e wNil_mono)) s A (k := fun ds st1 => ∃ x y, ds = [x, y] ∧ wS Γ r D ((ρ.set i (some x)).set j (some y)) st1) ?_ fun ds st1 vs H1 rv s1 A1 ⟨x, y, e, hk⟩ => ?_
      · exact (sem_mono Γ a).e _ _ _ _ (fun x st1 h1 => (sem_mono Γ b).e _ _ _ _ (fun y st2 h2 => ⟨x, y, rfl, h2⟩) h1) w
      · subst e
        obtain ⟨v, u, rfl, rv, ru⟩ := repL2 rv
        exact ⟨v, u, rfl, Hb, H0, D, O, _, st1, en, s1, ⟨(A1.env.set t4 rv).set u4 ru, A1.br, A1.ok⟩, hk⟩
    · cases q
  | .bset sl j e r, X, c, cc, M', Mb, body, h, hx, q => by
    simp only [mtC] at q
    split at q
    · simp only [Bool.and_eq_true, Bool.not_eq_true', decide_eq_true_eq] at q
      obtain ⟨⟨⟨⟨⟨⟨q0, q1⟩, q2⟩, q3⟩, q4⟩, q5⟩, q6⟩ := q
      subst q2
      obtain ⟨t1, t2, t3, t4⟩ := nmAt_of h q0
      have nM : sl ∉ c.M := by rw [h.M]; exact contains_no q1
      refine PSsimp (pss_cons (ps_asg (pe_ex fun O Hd ho => (snd e (h.wo O Hd ho)).e _ q5) (pg_sub (pe_var t1 t2 t3 t4) pe_int set_list) (swapsSole_no q3) (swapped_no q4)) (sndC r M' Mb _ h hx q6)) fun E σ H ⟨Hb, H0, D, O, ρ, st, en, s, A, w⟩ => ?_
      refine S_use (sem_mono Γ e).e s A w fun d st1 v H1 g rv s1 A1 ⟨hb, hj, hd, hk⟩ => ?_
      obtain ⟨p, vs, p1, p2, p3, p4, p5⟩ := A1.brSet nM hb hj hd rv.1
      exact ⟨.ref p, p1, p, vs, _, j, rfl, rfl, p3, p4, Hb, H0, D, O, ρ, _, en, s1.brSet p2, p5, hk⟩
    · cases q
  | .bdm sl j i e r, X, c, cc, M', Mb, body, h, hx, q => by
    simp only [mtC] at q
    split at q
    · simp only [Bool.and_eq_true, Bool.not_eq_true', decide_eq_true_eq, decide_eq_false_iff_not] at q
      obtain ⟨⟨⟨⟨⟨⟨⟨⟨q0, q1⟩, q2⟩, q2'⟩, q2''⟩, q3⟩, q4⟩, q5⟩, q6⟩ := q
      subst q2
      obtain ⟨t1, t2, t3, t4⟩ := nmAt_of h q0
      obtain ⟨u1, u2, u3, u4⟩ := tgAt_of h q2'
      have nM : sl ∉ c.M := by rw [h.M]; exact contains_no q1
      refine PSsimp (pss_cons (ps_asg (pe_ex fun O Hd ho => (snd e (h.wo O Hd ho)).e _ q5) (pg_tup (n := 2) h.calm (pgs_cons (pg_sub (pe_var t1 t2 t3 t4) pe_int set_list) (pgs_cons (pg_name (i := i) (by rw [h.hN]; exact h.nd) (by rw [h.hN]; exact u1) (by rw [h.sc]; exact loc_of u2) u3) pgs_nil))) (swapsSole_no q3) (swapped_no q4)) (sndC r M' Mb _ h hx q6)) fun E σ H ⟨Hb, H0, D, O, ρ, st, en, s, A, w⟩ => ?_
      refine S_use (sem_mono Γ e).e s A w fun d st1 v H1 g rv s1 A1 ⟨x, y, ed, hb, hj, hd, hk⟩ => ?_
      subst ed
      obtain ⟨a, vs, rfl, z, hq, hl⟩ := RepT.tup (.inl rv.1 : (c.wo O Hb).RepT H1 v _)
      obtain ⟨v1, v2, rfl, r1, r2⟩ := repL2 (c := c.wo O Hb) hl
      obtain ⟨p, us, p1, p2, p3, p4, p5⟩ := A1.brSet nM hb hj hd r1
      have r2' := Rep.wr (o' := .lst (us.set j v1)) p3 (A1.br.bk p p2).1.1 r2
      exact ⟨a, _, rfl, h.K ▸ hq, rfl, v1, [v2], rfl, ⟨.ref p, p1, p, us, _, j, rfl, rfl, p3, p4, v2, [], rfl, rfl, Hb, H0, D, O, _, _, en, s1.brSet p2, ⟨p5.env.set u4 r2', p5.br, p5.ok⟩, hk⟩⟩
    · cases q
  | .app i e r, X, c, cc, M', Mb, body, h, hx, q => by
    simp only [mtC] at q
    split at q
    · simp only [Bool.and_eq_true, decide_eq_true_eq] at q
      obtain ⟨⟨⟨⟨⟨⟨q0, q1⟩, q2⟩, q3⟩, q4⟩, q5⟩, q6⟩ := q
      subst q0
      obtain ⟨t1, t2, t3, t4⟩ := nmAt_of h q2
      have hi : i ∈ c.M := by rw [h.M]; exact contains_of q3
      refine PSsimp (pss_cons (ps_expr (pe_bm PySem.F.plainAttrs_list PySem.F.slot_list_append PySem.F.type_list_append mt_append (pe_var t1 t2 t3 t4) (pl_ex (ws := wCons (sem Γ e).e wNil) fun O Hd ho => pl_cons (sem_mono Γ e).e wNil_mono ((snd e (h.wo O Hd ho)).e _ q5) pl_nil (star_cons q4)) rfl
        (by rw [star_cons q4]; rfl) q1 (star_cons q4) rfl)) (sndC r M' Mb _ h hx q6)) fun E σ H ⟨Hb, H0, D, O, ρ, st, en, s, A, ds, e1, w⟩ => ?_
      obtain ⟨a, vs0, p1, p2⟩ := ownRef A hi e1
      refine ⟨.ref a, p1, .inl ⟨rfl, vs0, .inl (.inl p2)⟩, ?_⟩
      refine L_use (wCons_mono (sem_mono Γ e).e wNil_mono) s A (k := fun xs st1 => ∃ x, xs = [x] ∧ ds.length < sizeLine ∧ wS Γ r D (ρ.set i (some (.lst (ds ++ [x])))) st1) ?_ fun xs st1 us H1 rv s1 A1 ⟨x, ex, hz, hk⟩ => ?_
      · exact (sem_mono Γ e).e _ _ _ _ (fun x st1 h1 => ⟨x, rfl, h1⟩) w
      · subst ex
        obtain ⟨v, rfl, rv'⟩ := repL1 rv
        obtain ⟨a', vs, k1, k2, k3, k4, k5, k6, k7⟩ := A1.chg hi e1
        rw [p1] at k1
        cases k1
        have hl : vs.length < sizeLine := by rw [k6.length]; exact hz
        exact ⟨a, vs, v, rfl, rfl, k4, hl, Hb, H0, D, O, _, st1, en, s1.wr (D := O) k2 k3, k7 _ _ (by rw [List.length_append]; simp; omega) (k6.append (.cons rv' .nil)), hk⟩
    · cases q
  | .ext i e r, X, c, cc, M', Mb, body, h, hx, q => by
    simp only [mtC] at q
    split at q
    · simp only [Bool.and_eq_true, decide_eq_true_eq] at q
      obtain ⟨⟨⟨⟨⟨⟨q0, q1⟩, q2⟩, q3⟩, q4⟩, q5⟩, q6⟩ := q
      subst q0
      obtain ⟨t1, t2, t3, t4⟩ := nmAt_of h q2
      have hi : i ∈ c.M := by rw [h.M]; exact contains_of q3
      refine PSsimp (pss_cons (ps_expr (pe_bm PySem.F.plainAttrs_list PySem.F.slot_list_extend PySem.F.type_list_extend mt_extend (pe_var t1 t2 t3 t4) (pl_ex (ws := wCons (sem Γ e).e wNil) fun O Hd ho => pl_cons (sem_mono Γ e).e wNil_mono ((snd e (h.wo O Hd ho)).e _ q5) pl_nil (star_cons q4)) rfl
        (by rw [star_cons q4]; rfl) q1 (star_cons q4) rfl)) (sndC r M' Mb _ h hx q6)) fun E σ H ⟨Hb, H0, D, O, ρ, st, en, s, A, ds, e1, w⟩ => ?_
      obtain ⟨a, vs0, p1, p2⟩ := ownRef A hi e1
      refine ⟨.ref a, p1, .inl ⟨rfl, vs0, .inl (.inl p2)⟩, ?_⟩
      refine L_use (wCons_mono (sem_mono Γ e).e wNil_mono) s A (k := fun xs st1 => ∃ es, xs = [.lst es] ∧ ds.length + es.length ≤ sizeLine ∧ wS Γ r D (ρ.set i (some (.lst (ds ++ es)))) st1) ?_ fun xs st1 us H1 rv s1 A1 ⟨es, ex, hz, hk⟩ => ?_
      · exact (sem_mono Γ e).e _ _ _ _ (fun x st1 ⟨es, ee, h1⟩ => ⟨es, by rw [ee], h1⟩) w
      · subst ex
        obtain ⟨v, rfl, rv'⟩ := repL1 rv
        obtain ⟨b, zs, rfl, zz, hb, rz⟩ := RepT.seq (.inl rv' : (c.wo O Hb).RepT H1 v _)
        obtain ⟨a', vs, k1, k2, k3, k4, k5, k6, k7⟩ := A1.chg hi e1
        rw [p1] at k1
        cases k1
        have hl : vs.length + zs.length ≤ sizeLine := by rw [k6.length, rz.length]; exact hz
        exact ⟨a, b, vs, zs, rfl, rfl, k4, hb, hl, Hb, H0, D, O, _, st1, en, s1.wr (D := O) k2 k3, k7 _ _ (by rw [List.length_append]; exact hl) (k6.append rz), hk⟩
    · cases q
  | .put i a e r, X, c, cc, M', Mb, body, h, hx, q => by
    simp only [mtC] at q
    split at q
    · rename_i x px u p0 v p1 rest
      simp only [Bool.and_eq_true, Bool.not_eq_true'] at q
      obtain ⟨⟨⟨⟨⟨⟨⟨q0, q1⟩, q2⟩, q3⟩, q4⟩, q5⟩, q6⟩, q7⟩ := q
      obtain ⟨t1, t2, t3, t4⟩ := nmAt_of h q0
      have hi : i ∈ c.M := by rw [h.M]; exact contains_of q1
      refine PSsimp (pss_cons (ps_asg (pe_ex fun O Hd ho => (snd e (h.wo O Hd ho)).e _ q6) (pg_sub (pe_var t1 t2 t3 t4) (pr_ex fun O Hd ho => (snd a (h.wo O Hd ho)).r _ q3) set_list (by intro _; cases u <;> first | rfl | exact absurd q2 Bool.false_ne_true)) (swapsSole_no q4) (swapped_no q5)) (sndC r M' Mb _ h hx q7)) fun E σ H ⟨Hb, H0, D, O, ρ, st, en, s, A, w⟩ => ?_
      refine S_use (sem_mono Γ e).e s A w fun d st1 v H1 g rv s1 A1 ⟨ds, e1, w2⟩ => ?_
      obtain ⟨l, vs0, p1, p2⟩ := ownRef A1 hi e1
      refine ⟨.ref l, p1, ?_⟩
      refine R_use (sem_mono Γ a).e s1 A1 w2 fun kd st2 kv H2 g2 rk s2 A2 ⟨n, j, ek, hj, hk⟩ => ?_
      subst ek
      have ek := repT_int rk
      subst ek
      obtain ⟨l', vs, k1, k2, k3, k4, k5, k6, k7⟩ := A2.chg hi e1
      rw [p1] at k1
      cases k1
      have rv2 : QL.Rep c.K c.β O H2 v d := rv.1.gr A1.br.bk g2
      exact ⟨l, vs, n, j, rfl, rfl, k4, by rw [k6.length]; exact hj, Hb, H0, D, O, _, st2, en, s2.wr (D := O) k2 k3, k7 _ _ (by rw [List.length_set]; exact k5) (k6.set j rv2), hk⟩
    · cases q
  | .rel i r, X, c, cc, M', Mb, body, h, hx, q => by
    simp only [mtC] at q
    refine PSsimp (sndC r M' Mb body (h.reM _) hx q) fun E σ H ⟨Hb, H0, D, O, ρ, st, en, s, A, w⟩ => ?_
    obtain ⟨O', s', A'⟩ := A.release s i
    rw [h.M] at A'
    exact ⟨Hb, H0, D, O', ρ, st, ⟨fun ρ st O σ H hD so A => en.nx ρ st O σ H hD ⟨so.hd, so.fr, so.gr⟩ A, en.rt, fun ρ st O σ H hD so A => en.bk ρ st O σ H hD ⟨so.hd, so.fr, so.gr⟩ A, fun ρ st O σ H hD so A => en.ct ρ st O σ H hD ⟨so.hd, so.fr, so.gr⟩ A⟩, ⟨s'.hd, s'.fr, s'.gr⟩, A', w⟩
  | .doc r, X, c, cc, M', Mb, body, h, hx, q => by
    simp only [mtC] at q
    split at q
    · exact PSsimp (pss_cons ps_doc (sndC r M' Mb _ h hx q)) fun E σ H w => w
    · exact PSsimp (pss_cons ps_pass (sndC r M' Mb _ h hx q)) fun E σ H w => w
    · cases q
  | .drop e r, X, c, cc, M', Mb, body, h, hx, q => by
    simp only [mtC] at q
    split at q
    · simp only [Bool.and_eq_true] at q
      obtain ⟨⟨q0, q1⟩, q2⟩ := q
      refine PSsimp (pss_cons (ps_expr (pr_ex fun O Hd ho => (snd e (h.wo O Hd ho)).r _ q1) (swapsWith_no q0)) (sndC r M' Mb _ h hx q2)) fun E σ H ⟨Hb, H0, D, O, ρ, st, en, s, A, w⟩ => ?_
      exact R_use (sem_mono Γ e).e s A w fun d st1 v H1 g rv s1 A1 hk => ⟨Hb, H0, D, O, ρ, st1, en, s1, A1, hk⟩
    · cases q
  | .ite t a b r, X, c, cc, M', Mb, body, h, hx, q => by
    simp only [mtC] at q
    split at q
    · simp only [Bool.and_eq_true] at q
      obtain ⟨⟨⟨q0, q1⟩, q2⟩, q3⟩ := q
      refine PSsimp (pss_cons (ps_if (pt_ex fun O Hd ho => (snd t (h.wo O Hd ho)).t _ q0) (sndC a cc.M Mb _ h hx q1) (sndC b cc.M Mb _ h hx q2)) (sndC r M' Mb _ h hx q3)) fun E σ H ⟨Hb, H0, D, O, ρ, st, en, s, A, w⟩ => ?_
      refine T_use (sem_mono Γ t).e s A w fun d st1 ⟨v, e, hk⟩ => ⟨v, e, fun H1 s1 A1 => ?_⟩
      have en' : EndsOk c cc.M Mb Hb H0 { D with nx := wS Γ r D } { E with nx := tS c M' Mb (wS Γ r) E } := ⟨fun ρ st O σ H hD so A => ⟨Hb, H0, D, O, ρ, st, en, so, by rw [← h.M] at A; exact A, hD⟩, en.rt, en.bk, en.ct⟩
      cases v with
      | true => exact ⟨Hb, H0, _, O, ρ, st1, en', s1, A1, hk⟩
      | false => exact ⟨Hb, H0, _, O, ρ, st1, en', s1, A1, hk⟩
    · cases q
  | .for_ t it b r, X, c, cc, M', Mb, body, h, hx, q => by
    simp only [mtC] at q
    split at q
    · simp only [Bool.and_eq_true] at q
      obtain ⟨⟨⟨⟨q0, q1⟩, q2⟩, q3⟩, q4⟩ := q
      refine PSsimp (pss_cons (ps_for (by rw [hx]; exact PassesOwn.never) h.calm (pj_ex fun O Hd ho => (snd it (h.wo O Hd ho)).j _ _ q2) ((T.pg h t).1 _ q1) (sndC b cc.M cc.M _ h hx q3) (noSet_of q0)) (sndC r M' Mb _ h hx q4)) fun E σ H ⟨Hb, H0, D, O, ρ, st, en, s, A, w⟩ => ?_
      refine ⟨O, Hb, s.hd, tX_use (sem_mono Γ it).i A w fun ds st1 J H1 g A1 src hk => ?_⟩
      have en' : EndsOk c c.M Mb Hb H0 { D with nx := wS Γ r D } { E with nx := tS c M' Mb (wS Γ r) E } := ⟨fun ρ st O σ H hD so A => ⟨Hb, H0, D, O, ρ, st, en, so, A, hD⟩, en.rt, en.bk, en.ct⟩
      exact forD ((T.ok h.M h.K t).1 _ q1) en' (s.up g) A1 src hk fun E σ H w => by
        rw [h.M] at w
        exact w
    · cases q
  | .while_ t b r, X, c, cc, M', Mb, body, h, hx, q => by
    simp only [mtC] at q
    split at q
    · simp only [Bool.and_eq_true] at q
      obtain ⟨⟨q0, q1⟩, q2⟩ := q
      refine PSsimp (pss_cons (ps_while (by rw [hx]; exact PassesOwn.never) (pt_ex fun O Hd ho => (snd t (h.wo O Hd ho)).t _ q0) (sndC b cc.M cc.M _ h hx q1)) (sndC r M' Mb _ h hx q2)) fun E σ H ⟨Hb, H0, D, O, ρ, st, en, s, A, W, ⟨m, w0⟩, turn⟩ => ?_
      refine ⟨fun m σ H => ∃ O ρ st, SOk c Hb H0 O H ∧ At (c.wo O Hb) H σ ρ st ∧ W m ρ st, ⟨m, O, ρ, st, s, A, w0⟩, fun m σ H ⟨O, ρ, st, s, A, w⟩ => ?_⟩
      refine T_use (sem_mono Γ t).e s A (turn m ρ st w) fun d st1 ⟨v, e, hk⟩ => ⟨v, e, fun H1 s1 A1 => ?_⟩
      cases v with
      | false => exact ⟨Hb, H0, D, O, ρ, st1, en, s1, A1, hk⟩
      | true =>
        refine ⟨fun σ H => ∃ m', m' < m ∧ ∃ O ρ st, SOk c Hb H0 O H ∧ At (c.wo O Hb) H σ ρ st ∧ W m' ρ st, fun σ' H' z => z, Hb, H0, { nx := fun ρ' st' => ∃ m', m' < m ∧ W m' ρ' st', ct := fun ρ' st' => ∃ m', m' < m ∧ W m' ρ' st', bk := wS Γ r D, rt := D.rt }, O, ρ, st1, ⟨fun ρ st O σ H ⟨m', hm, hD⟩ so A => ?_, en.rt, fun ρ st O σ H hD so A => ?_, fun ρ st O σ H ⟨m', hm, hD⟩ so A => ?_⟩, s1, A1, hk⟩
        · rw [← h.M] at A; exact ⟨m', hm, O, ρ, st, so, A, hD⟩
        · rw [← h.M] at A; exact ⟨Hb, H0, D, O, ρ, st, en, so, A, hD⟩
        · rw [← h.M] at A; exact ⟨m', hm, O, ρ, st, so, A, hD⟩
    · cases q
  | .ret e, X, c, cc, M', Mb, body, h, hx, q => by
    simp only [mtC] at q
    split at q
    · simp only [Bool.and_eq_true, Bool.or_eq_true, Bool.not_eq_true'] at q
      obtain ⟨q, qf⟩ := q
      refine PSsimp (pss_cons (ps_ret (pe_ex fun O Hd ho => (snd e (h.wo O Hd ho)).e _ q)) pss_never) fun E σ H ⟨Hb, H0, D, O, ρ, st, en, s, A, w⟩ => ?_
      exact S_use (sem_mono Γ e).e s A w fun d st1 v H1 g rv s1 A1 hk => en.rt d st1 v H1 hk s1.gr (A1.br.less s.hd fun _ z => z) (rv.1.lessO s.hd) fun z => (rv.2 (by rw [h.fr] at z; rw [z] at qf; exact qf.resolve_left fun w => nomatch w)).base s A.br.bk
    · cases q
  | .retn, X, c, cc, M', Mb, body, h, hx, q => by
    simp only [mtC] at q
    split at q
    · refine PSsimp (pss_cons ps_retN pss_never) fun E σ H ⟨Hb, H0, D, O, ρ, st, en, s, A, w⟩ => ?_
      exact en.rt .non st .non H w s.gr (A.br.less s.hd fun _ z => z) .non fun _ => fresh_no fun _ z => nomatch z
    · cases q
  | .never, X, c, cc, M', Mb, body, h, hx, q => PSsimp pss_never fun E σ H ⟨Hb, H0, D, O, ρ, st, en, s, A, w⟩ => w
  | .brk, X, c, cc, M', Mb, body, h, hx, q => by
    simp only [mtC] at q
    split at q
    · have e := of_decide_eq_true q
      refine PSsimp (pss_cons ps_break pss_never) fun E σ H ⟨Hb, H0, D, O, ρ, st, en, s, A, w⟩ => ?_
      exact en.bk ρ st O σ H w s (by rw [← e, ← h.M]; exact A)
    · cases q
  | .cont, X, c, cc, M', Mb, body, h, hx, q => by
    simp only [mtC] at q
    split at q
    · have e := of_decide_eq_true q
      refine PSsimp (pss_cons ps_continue pss_never) fun E σ H ⟨Hb, H0, D, O, ρ, st, en, s, A, w⟩ => ?_
      exact en.ct ρ st O σ H w s (by rw [← e, ← h.M]; exact A)
    · cases q
end QL
namespace QL
open PySem PySem.Spec PyProof.Rows L2
/-! ### defs -/
def spQ (K : PySem.W.Frag) (n : Nat) (F : FS) : Sp := fun vs H Q _ => vs.length = n ∧ QSp K F vs H Q
def startD (N : List Str) (ds : DS) : En := ds.map some ++ List.replicate (N.length - ds.length) none
section
variable {P : Program} {w : World} {K : PySem.W.Frag} {mg : Str → Option Value} {base : Heap} {Γ : Nat → FS}
theorem BrR.hd {β : Option Addr} {O Hb Hd : Addr → Prop} {H : Hp} {st : DS} (b : QL.BrR K β O H Hb st) (h : ∀ p, β = some p → Hd p) : QL.BrR K β O H Hd st := by
  unfold QL.BrR at b ⊢
  cases β with
  | none => exact b
  | some p =>
    obtain ⟨h1, r⟩ := b
    exact ⟨⟨h1.1, h p rfl⟩, r⟩
theorem startD_some {N : List Str} {ds : DS} {i : Nat} {d : D} (h : (startD N ds)[i]? = some (some d)) : ds[i]? = some d := by
  unfold startD at h
  rcases Nat.lt_or_ge i ds.length with z | z
  · rw [List.getElem?_append_left (by simpa using z), List.getElem?_map] at h
    cases e : ds[i]? with
    | none => rw [e] at h; cases h
    | some x => rw [e] at h; cases h; rfl
  · rw [List.getElem?_append_right (by simpa using z), List.getElem?_replicate] at h
    split at h <;> cases h
theorem start_some {N : List Str} {vs : List V} {i : Nat} {v : V} (h : vs[i]? = some v) : (L2.start N vs)[i]? = some (some v) := by
  have hl := (List.getElem?_eq_some_iff.mp h).1
  unfold L2.start
  rw [List.getElem?_append_left (by simpa using hl), List.getElem?_map, h]
  rfl
/-- THE RULE for a def told by compact code -/
theorem fnQ {x : Str} {sm : Stmt} {f : Addr} {fd : FuncData} {cc : CC} {ps : List Str} {k : Nat} {code : C} {F : FS} (Fn : L2.Fun K x x sm f fd) (S : FnScope cc.N ps (defScope sm)) (hsc : cc.sc = defScope sm) (hraw : cc.raw = none) (hM : ∀ i ∈ cc.M, ps.length ≤ i)
    (hcode : mtC code cc cc.M [] (defBody sm) = true) (hfr : F.fr = cc.fr) (bi : ∀ x ∈ biNames, mg x = none) (gi : ∀ p ∈ cc.gis, ∃ t, mg p.1 = some (.int p.2 t)) (cal : ∀ j x ks n, cc.fns[j]? = some (x, ks, n) → CalQ P w K mg base k x ks n (Γ j))
    (hD : ∀ ds st kk, ds.length = ps.length → F.w ds st kk → wS Γ code { nx := fun _ st' => kk .non st', rt := kk } (startD cc.N ds) st) : FnOk P w K mg base CX0 (k + 1) f fd ps (spQ K ps.length F) := by
  refine Fn.ok S (fun vs H Q E h => h.1) fun cdv A outer s H vs Q E hr h => ?_
  obtain ⟨hl, ⟨K0, β, M0, Oc, Hd, fr0⟩, hK, hM0, hdo, ds, st, br, ok, rl, hw⟩ := h
  have hK : K0 = K := hK
  subst hK
  have hu : A.units + 65 + 3 < cLine := by
    have := hr.un
    have e : (A.deeper (envOfC x (defScope sm) s.heap.objs.size f cdv)).units = A.units + 3 := rfl
    rw [e] at this
    omega
  let X : Cx := (cxOf CX0 P w K0 mg base cc.N x (defScope sm) f cdv A outer s H E).nox
  have hx : HX X ⟨K0, β, cc.M, Oc, Oc, cc.fr⟩ cc Γ := ⟨rfl, S.nd, hsc.symm, fun y => by show true = cc.fnf y; unfold CC.fnf; rw [hraw], rfl, rfl, rfl, rfl, fun _ z => z, by
      show (A.deeper (envOfC x (defScope sm) s.heap.objs.size f cdv)).units + 65 < cLine
      have := hr.un
      omega, bi, gi, fun j y ks n hj => ⟨k, hr, cal j y ks n hj⟩⟩
  refine ⟨_, sndC code cc.M [] _ hx rfl hcode, Oc, H, { nx := fun _ st' => ∀ v H', Gr β H H' → QL.BrR K0 β Oc H' Hd st' → QL.Rep K0 β Oc H' v .non → (F.fr = true → Fresh ⟨K0, β, M0, Oc, Hd, fr0⟩ H H' v .non) → Q v H', rt := fun d st' => ∀ v H', Gr β H H' → QL.BrR K0 β Oc H' Hd st' → QL.Rep K0 β Oc H' v d → (F.fr = true → Fresh ⟨K0, β, M0, Oc, Hd, fr0⟩ H H' v d) → Q v H' }, Oc, startD cc.N ds, st, ⟨?_, ?_, ?_, ?_⟩, ⟨fun _ z => z, fun _ z => .inl z, Gr.refl H⟩, ?_, hD ds st (fun d st' => ∀ v H', Gr β H H' → QL.BrR K0 β Oc H' Hd st' → QL.Rep K0 β Oc H' v d → (F.fr = true → Fresh ⟨K0, β, M0, Oc, Hd, fr0⟩ H H' v d) → Q v H') (by rw [← rl.length]; exact hl) hw⟩
  · intro ρ st' O σ H' q so A'
    exact q .non H' so.gr ((A'.br.less so.hd fun _ z => z).hd fun p e => (br.bk p e).1.2) .non fun _ => fresh_no fun _ z => nomatch z
  · intro d st' v H' q g b rv fv
    exact q v H' g (b.hd fun p e => (br.bk p e).1.2) rv fun z => fv (hfr ▸ z)
  · exact fun _ _ _ _ _ z => z.elim
  · exact fun _ _ _ _ _ z => z.elim
  · have hlen : (L2.start cc.N vs).length = (startD cc.N ds).length := by
      unfold L2.start startD
      simp only [List.length_append, List.length_map, List.length_replicate]
      rw [rl.length]
    have none_ : ∀ {i d}, (startD cc.N ds)[i]? = some (some d) → i ∈ cc.M → False := fun {i d} e m => by
      have h1 := startD_some e
      have h2 := (List.getElem?_eq_some_iff.mp h1).1
      have h3 := hM i m
      rw [← rl.length, hl] at h2
      omega
    refine ⟨⟨hlen, fun i d e n => ?_, fun i d e m => (none_ e m).elim, fun i j d1 d2 a e1 e2 m1 m2 _ _ => (none_ e1 m1).elim⟩, br.hd fun p e => (br.bk p e).1.1, ok⟩
    obtain ⟨v, q1, q2⟩ := rl.get (startD_some e)
    exact ⟨v, start_some q1, q2⟩
/-- some of a list, by their places -/
def pick {α : Type} (π : List Nat) (xs : List α) : List α := π.filterMap (xs[·]?)
theorem pick_cons {α : Type} {i : Nat} {π : List Nat} {xs : List α} {x : α} (h : xs[i]? = some x) : pick (i :: π) xs = x :: pick π xs := by
  unfold pick
  rw [List.filterMap_cons, h]
theorem vals_pick {vs : List V} {us : List Value} (r : Vals vs us) : ∀ π : List Nat, Vals (pick π vs) (pick π us)
  | [] => .nil
  | i :: π => by
    cases e : vs[i]? with
    | none =>
      have e2 : us[i]? = none := by
        rw [List.getElem?_eq_none_iff] at e ⊢
        rw [← r.length]; exact e
      unfold pick
      rw [List.filterMap_cons, List.filterMap_cons, e, e2]
      exact vals_pick r π
    | some v =>
      obtain ⟨u, e2, q⟩ := r.get e
      rw [pick_cons e, pick_cons e2]
      exact .cons q (vals_pick r π)
theorem repL_pick {c : Fx} {H : Hp} {vs : List V} {ds : DS} (r : c.RepL H vs ds) : ∀ π : List Nat, c.RepL H (pick π vs) (pick π ds)
  | [] => .nil
  | i :: π => by
    cases e : vs[i]? with
    | none =>
      have e2 : ds[i]? = none := by
        rw [List.getElem?_eq_none_iff] at e ⊢
        rw [← r.length]; exact e
      unfold pick
      rw [List.filterMap_cons, List.filterMap_cons, e, e2]
      exact repL_pick r π
    | some v =>
      obtain ⟨d, e2, q⟩ := r.getV e
      rw [pick_cons e, pick_cons e2]
      exact .cons q (repL_pick r π)
def FS.pick (F : FS) (π : List Nat) : FS := ⟨fun ds st k => F.w (QL.pick π ds) st k, fun ds st k k' f h => F.mono _ _ _ _ f h, F.fr⟩
theorem pick_length {α : Type} : ∀ {π : List Nat} {xs : List α}, (∀ i ∈ π, i < xs.length) → (QL.pick π xs).length = π.length
  | [], _, _ => rfl
  | i :: π, xs, h => by
    rw [pick_cons (List.getElem?_eq_getElem (h i (by simp))), List.length_cons, List.length_cons, pick_length fun j hj => h j (by simp [hj])]
/-- a def, called: n values, the keywords ks; π puts them in the parameters' order -/
theorem calQ {x : Str} {st : Stmt} {f : Addr} {fd : FuncData} {ps ks : List Str} {k n : Nat} {F : FS} (Fn : L2.Fun K x x st f fd) (hm : mg x = some (.ref f)) (ok : FnOk P w K mg base CX0 k f fd ps (spQ K ps.length F)) (π : List Nat) (hπ : π.length = ps.length) (hi : π.all (· < n + ks.length) = true)
    (hb : ∀ (kV doc pm : Value) (an : Option Addr) (cdv ct : Value) (us ws : List Value), us.length = n → ws.length = ks.length →
      bindArgs (PySem.W.fnOf x x (defArgs st) (defBody st) (defScope st) .none kV doc pm an cdv ct) ⟨us, ks.zip ws⟩ = pure (ps.zip (pick π (us ++ ws)))) : CalQ P w K mg base k x ks n (F.pick π) := by
  have kp := Fn.kp
  obtain ⟨oc, od, kV, doc, pm, an, cdv, ct, osl, rfl, lk, hcd⟩ := Fn.ex
  refine ⟨f, _, ps, spQ K ps.length F, fun us ws => pick π (us ++ ws), fun vs zs => pick π (vs ++ zs), ok, hm, kp, ⟨fun s us ws _ h1 h2 => .of_eq (hb kV doc pm an cdv ct us ws h1 h2), fun r1 r2 => vals_pick (r1.append r2) π⟩, fun vs zs H Q h1 h2 h => ⟨?_, ?_⟩⟩
  · rw [pick_length, hπ]
    intro i hi'
    have := List.all_eq_true.mp hi i hi'
    rw [List.length_append, h1, h2]
    simpa using this
  · obtain ⟨c, e1, e2, e3, ds, st, br, ok', rl, hw⟩ := h
    exact ⟨c, e1, e2, e3, pick π ds, st, br, ok', repL_pick rl π, hw⟩
/-- a weaker promise -/
theorem CalQ.imp {x : Str} {ks : List Str} {k n : Nat} {F F' : FS} (c : CalQ P w K mg base k x ks n F) (h : ∀ ds st kk, F'.w ds st kk → F.w ds st kk) (hf : F'.fr = true → F.fr = true) : CalQ P w K mg base k x ks n F' := by
  obtain ⟨f, fd, ps, sp, g, gV, h1, h2, h3, h4, h5⟩ := c.ex
  refine ⟨f, fd, ps, sp, g, gV, h1, h2, h3, h4, fun vs zs H Q e1 e2 ⟨c, e1', e2', e3, ds, st, br, ok', rl, hw⟩ => h5 vs zs H Q e1 e2 ⟨c, e1', e2', e3, ds, st, br, ok', rl, h _ _ _ (F'.mono _ _ _ _ (fun d st' q v H' g b rv fv => q v H' g b rv fun z => fv (hf z)) hw)⟩⟩
theorem CalQ.mono {x : Str} {ks : List Str} {j k n : Nat} {F : FS} (c : CalQ P w K mg base j x ks n F) (h : j ≤ k) : CalQ P w K mg base k x ks n F := by
  obtain ⟨f, fd, ps, sp, g, gV, h1, h2, h3, h4, h5⟩ := c.ex
  exact ⟨f, fd, ps, sp, g, gV, h1.mono h, h2, h3, h4, h5⟩
end
end QL
namespace QL
open PySem PySem.Spec PyProof.Rows L2
/-! ### promises of plain functions -/
/-- on the arguments ds the value d comes -/
def fnS (R : DS → D → Prop) : FS := ⟨fun ds st k => ∃ d, R ds d ∧ k d st, fun _ _ _ _ f ⟨d, r, h⟩ => ⟨d, r, f _ _ h⟩, false⟩
def noFS : FS := ⟨fun _ _ _ => False, fun _ _ _ _ _ h => h, false⟩
def gam (l : List FS) (j : Nat) : FS := l.getD j noFS
section
variable {P : Program} {w : World} {K : PySem.W.Frag} {mg : Str → Option Value} {base : Heap}
/-- each call is served -/
inductive CalL (P : Program) (w : World) (K : PySem.W.Frag) (mg : Str → Option Value) (base : Heap) (k : Nat) : List (Str × List Str × Nat) → List FS → Prop
  | nil : CalL P w K mg base k [] []
  | cons {x : Str} {ks : List Str} {n j : Nat} {F : FS} {r : List (Str × List Str × Nat)} {l : List FS} : CalQ P w K mg base j x ks n F → j ≤ k → CalL P w K mg base k r l → CalL P w K mg base k ((x, ks, n) :: r) (F :: l)
theorem CalL.at {k : Nat} : ∀ {r : List (Str × List Str × Nat)} {l : List FS}, CalL P w K mg base k r l → ∀ j x ks n, r[j]? = some (x, ks, n) → CalQ P w K mg base k x ks n (gam l j)
  | _, _, .nil, j, x, ks, n, h => by simp at h
  | _, _, .cons c hj t, 0, x, ks, n, h => by
    simp only [List.getElem?_cons_zero, Option.some.injEq, Prod.mk.injEq] at h
    obtain ⟨rfl, rfl, rfl⟩ := h
    exact c.mono hj
  | _, _, .cons c hj t, j + 1, x, ks, n, h => t.at j x ks n (by simpa using h)
/-- a def stands under its name -/
def DefIn (K : PySem.W.Frag) (mg : Str → Option Value) (x : Str) (st : Stmt) : Prop := ∃ f fd, L2.Fun K x x st f fd ∧ mg x = some (.ref f)
/-- .. and keeps its promise -/
def DefQ (P : Program) (w : World) (K : PySem.W.Frag) (mg : Str → Option Value) (base : Heap) (x : Str) (st : Stmt) (ps : List Str) (k : Nat) (F : FS) : Prop := ∃ f fd, L2.Fun K x x st f fd ∧ mg x = some (.ref f) ∧ FnOk P w K mg base CX0 k f fd ps (spQ K ps.length F)
theorem defQ {x : Str} {sm : Stmt} {cc : CC} {ps : List Str} {k : Nat} {code : C} {F : FS} {l : List FS} (d : DefIn K mg x sm) (S : FnScope cc.N ps (defScope sm)) (hcode : mtC code cc cc.M [] (defBody sm) = true) (bi : ∀ x ∈ biNames, mg x = none) (gi : ∀ p ∈ cc.gis, ∃ t, mg p.1 = some (.int p.2 t))
    (cal : CalL P w K mg base k cc.fns l) (hD : ∀ ds st kk, ds.length = ps.length → F.w ds st kk → wS (gam l) code { nx := fun _ st' => kk .non st', rt := kk } (startD cc.N ds) st)
    (hsc : cc.sc = defScope sm := by rfl) (hraw : cc.raw = none := by rfl) (hM : ∀ i ∈ cc.M, ps.length ≤ i := by decide) (hfr : F.fr = cc.fr := by rfl) : DefQ P w K mg base x sm ps (k + 1) F := by
  obtain ⟨f, fd, Fn, hm⟩ := d
  exact ⟨f, fd, Fn, hm, fnQ Fn S hsc hraw hM hcode hfr bi gi cal.at hD⟩
theorem callQ {x : Str} {st : Stmt} {ps ks : List Str} {k n : Nat} {F : FS} (d : DefQ P w K mg base x st ps k F) (π : List Nat)
    (hb : ∀ (kV doc pm : Value) (an : Option Addr) (cdv ct : Value) (us ws : List Value), us.length = n → ws.length = ks.length →
      bindArgs (PySem.W.fnOf x x (defArgs st) (defBody st) (defScope st) .none kV doc pm an cdv ct) ⟨us, ks.zip ws⟩ = pure (ps.zip (pick π (us ++ ws)))) (hπ : π.length = ps.length := by rfl) (hi : π.all (· < n + ks.length) = true := by rfl) : CalQ P w K mg base k x ks n (F.pick π) := by
  obtain ⟨f, fd, Fn, hm, ok⟩ := d
  exact calQ Fn hm ok π hπ hi hb
end
/-! ### plain steps -/
section
variable {we wt : W} {ρ : En} {α : Type}
/-- all of them, none left out -/
theorem wMap_map (t : T) (inj out : α → D) : ∀ (xs : List α) (st : DS) (k : DS → DS → Prop), (∀ x ∈ xs, ∀ st (K : Post), K (out x) st → t.sem.t (inj x) ρ fun ρ1 => we ρ1 st K) → k (xs.map out) st → wMap t.sem.t (wC (.bl true)) we ρ (xs.map inj) st k
  | [], st, k, _, h => h
  | x :: xs, st, k, f, h => by
    refine t.mono.1 _ _ _ _ (fun ρ1 q => ⟨true, rfl, iteT q⟩) (f x (by simp) st (fun y st2 => wMap t.sem.t (wC (.bl true)) we ρ (xs.map inj) st2 fun ys st3 => k (y :: ys) st3) ?_)
    exact wMap_map t inj out xs st _ (fun z hz => f z (by simp [hz])) h
/-- those that p takes -/
theorem wMap_fm (t : T) (inj out : α → D) (p : α → Bool) : ∀ (xs : List α) (st : DS) (k : DS → DS → Prop), (∀ x ∈ xs, ∀ st (K : Post) (Z : DS → Prop), (p x = true → K (out x) st) → (p x = false → Z st) →
    t.sem.t (inj x) ρ fun ρ1 => wt ρ1 st fun b st1 => ∃ b', b = .bl b' ∧ if b' = true then we ρ1 st1 K else Z st1) → k ((xs.filter p).map out) st → wMap t.sem.t wt we ρ (xs.map inj) st k
  | [], st, k, _, h => h
  | x :: xs, st, k, f, h => by
    refine f x (by simp) st (fun y st2 => wMap t.sem.t wt we ρ (xs.map inj) st2 fun ys st3 => k (y :: ys) st3) (fun st1 => wMap t.sem.t wt we ρ (xs.map inj) st1 k) (fun e => ?_) (fun e => ?_)
    · refine wMap_fm t inj out p xs st _ (fun z hz => f z (by simp [hz])) ?_
      rw [List.filter_cons_of_pos e] at h
      exact h
    · refine wMap_fm t inj out p xs st _ (fun z hz => f z (by simp [hz])) ?_
      rw [List.filter_cons_of_neg (by simp [e])] at h
      exact h
/-- a test that tells q, then this or that -/
theorem tst {A : Prop} {B : Prop} {b q : Bool} (e : b = q) (h1 : q = true → A) (h2 : q = false → B) : ∃ b', D.bl b = .bl b' ∧ if b' = true then A else B := by
  refine ⟨b, rfl, ?_⟩
  subst e
  cases b with
  | true => exact iteT (h1 rfl)
  | false => exact iteF (h2 rfl)
/-- pairs of two rows -/
theorem zipD_map {β : Type} (f : α → D) (g : β → D) : ∀ (xs : List α) (ys : List β), zipD (xs.map f) (ys.map g) = (xs.zip ys).map fun p => .tup [f p.1, g p.2]
  | [], _ => by cases ‹List β› <;> rfl
  | _ :: _, [] => rfl
  | x :: xs, y :: ys => by
    show D.tup [f x, g y] :: zipD (xs.map f) (ys.map g) = _
    rw [zipD_map f g xs ys]
    rfl
theorem enumD_map (f : α → D) : ∀ (i : Nat) (xs : List α), enumD i (xs.map f) = (xs.zipIdx i).map fun p => .tup [.int (p.2 : Nat), f p.1]
  | _, [] => rfl
  | i, x :: xs => by
    show D.tup [.int (i : Nat), f x] :: enumD (i + 1) (xs.map f) = _
    rw [enumD_map f (i + 1) xs]
    rfl
theorem bls_map (p : α → Bool) (xs : List α) : xs.map (fun x => D.bl (p x)) = (xs.map p).map D.bl := by rw [List.map_map]; rfl
theorem ints_map (p : α → Int) (xs : List α) : xs.map (fun x => D.int (p x)) = (xs.map p).map D.int := by rw [List.map_map]; rfl
end
end QL
namespace QL
open PySem PySem.Spec PyProof.Rows L2
/-! ### rows of ints, lists of them -/
theorem okD_ints (n : Nat) (ns : List Int) : okD (n + 1) (tupI ns) = true := by
  unfold tupI
  simp only [okD, List.all_map, List.all_eq_true]
  intro x _
  cases n <;> rfl
theorem okC_tupI (ns : List Int) : okC (tupI ns) = true := okD_ints 59 ns
theorem okC_tupIs (b : List (List Int)) : okC (.tup (b.map tupI)) = true := by
  unfold okC
  simp only [okD, List.all_map, List.all_eq_true]
  exact fun x _ => okD_ints 58 x
theorem okC_lstI (b : List (List Int)) : okC (.lst (b.map tupI)) = true := by
  unfold okC
  simp only [okD, List.all_map, List.all_eq_true]
  exact fun x _ => okD_ints 58 x
theorem eqDL_ints : ∀ a b : List Int, eqDL (a.map D.int) (b.map D.int) = decide (a = b)
  | [], [] => by simp [eqDL]
  | [], _ :: _ => by simp [eqDL]
  | _ :: _, [] => by simp [eqDL]
  | x :: a, y :: b => by
    simp only [List.map_cons, eqDL, eqD, eqDL_ints a b]
    by_cases h : x = y <;> by_cases h2 : a = b <;> simp [h, h2]
theorem eqD_tupI (a b : List Int) : eqD (tupI a) (tupI b) = decide (a = b) := by
  unfold tupI
  simp only [eqD]
  exact eqDL_ints a b
theorem toPL_map : ∀ xs : DS, toPL xs = xs.map toP
  | [] => rfl
  | x :: xs => by simp only [toPL, List.map_cons, toPL_map xs]
theorem toP_tupI (ns : List Int) : toP (tupI ns) = .tuple (ns.map .int) := by
  unfold tupI
  simp only [toP, toPL_map, List.map_map]
  rfl
theorem alike_ints : ∀ a b : List Int, PySem.W.alikeAll (a.map .int) (b.map .int) = true
  | [], _ => by simp [PySem.W.alikeAll]
  | _ :: _, [] => by simp [PySem.W.alikeAll]
  | x :: a, y :: b => by simp [PySem.W.alikeAll, PySem.W.alike, alike_ints a b]
theorem sortOk_tupI {b : List (List Int)} (h : ∀ x ∈ b, x ≠ []) : SortOk (b.map tupI) := by
  refine ⟨fun d hd d' hd' => ?_, .inl fun d hd => ?_, fun x hx => ?_⟩
  · rw [List.map_map] at hd hd'
    obtain ⟨x, _, rfl⟩ := List.mem_map.mp hd
    obtain ⟨y, _, rfl⟩ := List.mem_map.mp hd'
    show PySem.W.alike (toP (tupI x)) (toP (tupI y)) = true
    rw [toP_tupI, toP_tupI]
    simp only [PySem.W.alike]
    exact alike_ints x y
  · rw [List.map_map] at hd
    obtain ⟨x, hx, rfl⟩ := List.mem_map.mp hd
    show ∃ y r, toP (tupI x) = _
    rw [toP_tupI]
    cases x with
    | nil => exact absurd rfl (h _ hx)
    | cons y r => exact ⟨_, _, rfl⟩
  · obtain ⟨y, _, rfl⟩ := List.mem_map.mp hx
    exact okC_tupI y
theorem okD_int {i : Int} : okC (.int i) = true := rfl
/-- rows in order -/
def leI (a b : List Int) : Bool := leD (tupI a) (tupI b)
def sortI (b : List (List Int)) : List (List Int) := b.mergeSort leI
theorem sortD_tupI (b : List (List Int)) : sortD (b.map tupI) = (sortI b).map tupI := by
  unfold sortD sortI
  rw [List.map_mergeSort (s := leD)]
  exact fun _ _ _ _ => rfl
/-- one by one, of rows -/
theorem wFor_nil {t : WT} {wb : EnD → En → DS → Prop} {D : EnD} {ρ : En} {st : DS} (h : D.nx ρ st) : wFor t wb D [] ρ st := h
section
variable {α β : Type} {we wt we1 wt1 : W} {ρ : En}
theorem wFor_ind (t : T) (wb : EnD → En → DS → Prop) (E : EnD) (inj : α → D) (I : List α → List α → En → DS → Prop) :
    ∀ (done xs : List α) (ρ : En) (st : DS), I done xs ρ st → (∀ done x xs ρ st, I done (x :: xs) ρ st → t.sem.t (inj x) ρ fun ρ1 => ∀ E' : EnD, (∀ ρ st, I (done ++ [x]) xs ρ st → E'.nx ρ st) → (∀ ρ st, I (done ++ [x]) xs ρ st → E'.ct ρ st) → E'.rt = E.rt → E'.bk = E.nx → wb E' ρ1 st) →
      (∀ done ρ st, I done [] ρ st → E.nx ρ st) → wFor t.sem.t wb E (xs.map inj) ρ st
  | done, [], ρ, st, h, _, f => f done ρ st h
  | done, x :: xs, ρ, st, h, s, f => by
    refine t.mono.1 _ _ _ _ (fun ρ1 q => q _ ?_ ?_ rfl rfl) (s done x xs ρ st h)
    · exact fun ρ st q => wFor_ind t wb E inj I (done ++ [x]) xs ρ st q s f
    · exact fun ρ st q => wFor_ind t wb E inj I (done ++ [x]) xs ρ st q s f
/-- two clauses -/
theorem wMap2_map (B : Nat) (t t1 : T) {wi1 : WI} {vs1 : List Nat} (inj : α → D) (out : α → List D) : ∀ (xs : List α) (st : DS) (k : DS → DS → Prop),
    (∀ x ∈ xs, ∀ st (K : DS → DS → Prop), K (out x) st → t.sem.t (inj x) ρ fun ρ1 => wt ρ1 st fun b st1 => ∃ b', b = .bl b' ∧ if b' = true then wi1 ρ1 st1 fun es st2 => es.length ≤ B ∧ wMap t1.sem.t wt1 we1 (wipeD ρ1 vs1) es st2 K else K [] st1) →
    k (xs.flatMap out) st → wMap2 B t.sem.t wt wi1 t1.sem.t wt1 we1 vs1 ρ (xs.map inj) st k
  | [], st, k, _, h => h
  | x :: xs, st, k, f, h => by
    rw [List.flatMap_cons] at h
    refine f x (by simp) st (fun ys st3 => wMap2 B t.sem.t wt wi1 t1.sem.t wt1 we1 vs1 ρ (xs.map inj) st3 fun zs st4 => k (ys ++ zs) st4) ?_
    exact wMap2_map B t t1 inj out xs st _ (fun z hz => f z (by simp [hz])) h
end
end QL
namespace K02
open PySem PySem.Spec PyProof.Rows L2 QL
def top (i : Nat) : Stmt := PySem.Challenge.pw_cornerwalls_k02_whole_cells.main.body.getD i (.Pass ⟨0, 0, 0, 0⟩)
abbrev s_law_drop : Stmt := top 56
def c_law_drop : C :=
  (.ite (.cmp .Gt (.bix 0 0) (.c (.int 0)))
  (.bdm 0 0 2 (.bi .divmod (.cons (.bix 0 0) (.cons (.v 1) .nil)))
  (.ret (.v 2)))
  .nil
  (.bset 0 1 (.bin .Mod (.bi .int (.cons (.bin .Add (.bin .Mult (.bix 0 1) (.c (.int 279470273))) (.c (.int 12345))) .nil)) (.c (.int 4294967291)))
  (.bset 0 2 (.bin .Mod (.bi .int (.cons (.bin .Add (.bin .Mult (.bix 0 2) (.c (.int 48271))) (.c (.int 1))) .nil)) (.c (.int 2147483647)))
  (.ret (.bin .Mod (.bi .int (.cons (.bin .Add (.bin .Mult (.bin .FloorDiv (.bix 0 1) (.c (.int 16))) (.c (.int 65537))) (.bin .FloorDiv (.bix 0 2) (.c (.int 8)))) .nil)) (.v 1))))))
def k_law_drop : CC := { N := ["brook", "many", "told"], sc := defScope s_law_drop, M := [], fns := [], gis := [] }
theorem m_law_drop : mtC c_law_drop k_law_drop k_law_drop.M [] (defBody s_law_drop) = true := by decide +kernel
theorem f_law_drop : FnScope k_law_drop.N ["brook", "many"] (defScope s_law_drop) := C8.fnScope_by (by decide +kernel)
abbrev s_law_under : Stmt := top 59
def c_law_under : C :=
  (.ret (.cmp .Eq (.lc [("a", 2), ("b", 3)] (.tp (.tc (.nm 2) (.tc (.nm 3) .tn))) (.zip (.cons (.v 0) (.cons (.v 1) .nil))) (.cmp .Gt (.v 2) (.v 3)) (.c (.int 1))) (.lst .nil)))
def k_law_under : CC := { N := ["one", "two", "a", "b"], sc := defScope s_law_under, M := [], fns := [], gis := [] }
theorem m_law_under : mtC c_law_under k_law_under k_law_under.M [] (defBody s_law_under) = true := by decide +kernel
theorem f_law_under : FnScope k_law_under.N ["one", "two"] (defScope s_law_under) := C8.fnScope_by (by decide +kernel)
abbrev s_law_of : Stmt := top 57
def c_law_of : C :=
  (.ret (.ix (.v 1) (.call 0 (.cons (.v 0) (.cons (.bi .len (.cons (.v 1) .nil)) .nil)) .nil)))
def k_law_of : CC := { N := ["brook", "some"], sc := defScope s_law_of, M := [], fns := [("_law_drop", [], 2)], gis := [] }
theorem m_law_of : mtC c_law_of k_law_of k_law_of.M [] (defBody s_law_of) = true := by decide +kernel
theorem f_law_of : FnScope k_law_of.N ["brook", "some"] (defScope s_law_of) := C8.fnScope_by (by decide +kernel)
abbrev s_law_any : Stmt := top 60
def c_law_any : C :=
  (.ret (.bi .tuple (.cons (.lc [("letter", 2)] (.nm 2) (.rng1 (.cons (.v 1) .nil)) .nil (.call 0 (.cons (.v 0) (.cons (.tup (.cons (.c (.int 0)) (.cons (.c (.int 1)) (.cons (.call 1 (.cons (.v 0) (.cons (.c (.int 5)) .nil)) .nil) (.cons (.c (.int 9999)) (.cons (.bin .Add (.bin .Pow (.c (.int 10)) (.c (.int 59))) (.call 1 (.cons (.v 0) (.cons (.c (.int 3)) .nil)) .nil)) .nil)))))) .nil)) .nil)) .nil)))
def k_law_any : CC := { N := ["brook", "many", "letter"], sc := defScope s_law_any, M := [], fns := [("_law_of", [], 2), ("_law_drop", [], 2)], gis := [] }
theorem m_law_any : mtC c_law_any k_law_any k_law_any.M [] (defBody s_law_any) = true := by decide +kernel
theorem f_law_any : FnScope k_law_any.N ["brook", "many"] (defScope s_law_any) := C8.fnScope_by (by decide +kernel)
abbrev s_law_even : Stmt := top 58
def c_law_even : C :=
  (.ite (.bi .isi (.cons (.v 1) (.cons (.ty "tuple") .nil)))
  (.ret (.and (.bi .isi (.cons (.v 0) (.cons (.ty "tuple") .nil))) (.and (.cmp .Eq (.bi .len (.cons (.v 0) .nil)) (.bi .len (.cons (.v 1) .nil))) (.cmp .Eq (.lc [("one", 2), ("two", 3)] (.tp (.tc (.nm 2) (.tc (.nm 3) .tn))) (.zip (.cons (.v 0) (.cons (.v 1) .nil))) (.not (.call 0 (.cons (.v 2) (.cons (.v 3) .nil)) .nil)) (.c (.int 1))) (.lst .nil)))))
  .nil
  (.ret (.and (.not (.bi .isi (.cons (.v 0) (.cons (.ty "tuple") .nil)))) (.cmp .Eq (.bi .repr (.cons (.v 0) .nil)) (.bi .repr (.cons (.v 1) .nil))))))
def k_law_even : CC := { N := ["told", "due", "one", "two"], sc := defScope s_law_even, M := [], fns := [("_law_even", [], 2)], gis := [] }
theorem m_law_even : mtC c_law_even k_law_even k_law_even.M [] (defBody s_law_even) = true := by decide +kernel
theorem f_law_even : FnScope k_law_even.N ["told", "due"] (defScope s_law_even) := C8.fnScope_by (by decide +kernel)
abbrev s_is_whole : Stmt := top 1
def c_is_whole : C :=
  (.ret (.and (.bi .isi (.cons (.v 0) (.cons (.ty "int") .nil))) (.not (.bi .isi (.cons (.v 0) (.cons (.ty "bool") .nil))))))
def k_is_whole : CC := { N := ["value"], sc := defScope s_is_whole, M := [], fns := [], gis := [] }
theorem m_is_whole : mtC c_is_whole k_is_whole k_is_whole.M [] (defBody s_is_whole) = true := by decide +kernel
theorem f_is_whole : FnScope k_is_whole.N ["value"] (defScope s_is_whole) := C8.fnScope_by (by decide +kernel)
abbrev s_is_between : Stmt := top 2
def c_is_between : C :=
  (.ret (.and (.call 0 (.cons (.v 0) .nil) .nil) (.chain .LtE .LtE (.v 1) (.v 0) (.v 2))))
def k_is_between : CC := { N := ["value", "low", "high"], sc := defScope s_is_between, M := [], fns := [("is_whole", [], 1)], gis := [] }
theorem m_is_between : mtC c_is_between k_is_between k_is_between.M [] (defBody s_is_between) = true := by decide +kernel
theorem f_is_between : FnScope k_is_between.N ["value", "low", "high"] (defScope s_is_between) := C8.fnScope_by (by decide +kernel)
abbrev s_check_many : Stmt := top 34
def c_check_many : C :=
  (.ite (.not (.call 0 (.cons (.v 0) (.cons (.c (.int 1)) (.cons (.v 1) .nil))) .nil))
  .never
  .nil
  .nil)
def k_check_many : CC := { N := ["many", "most"], sc := defScope s_check_many, M := [], fns := [("is_between", [], 3)], gis := [] }
theorem m_check_many : mtC c_check_many k_check_many k_check_many.M [] (defBody s_check_many) = true := by decide +kernel
theorem f_check_many : FnScope k_check_many.N ["many", "most"] (defScope s_check_many) := C8.fnScope_by (by decide +kernel)
abbrev s_is_from : Stmt := top 3
def c_is_from : C :=
  (.ret (.and (.call 0 (.cons (.v 0) .nil) .nil) (.cmp .GtE (.v 0) (.v 1))))
def k_is_from : CC := { N := ["value", "low"], sc := defScope s_is_from, M := [], fns := [("is_whole", [], 1)], gis := [] }
theorem m_is_from : mtC c_is_from k_is_from k_is_from.M [] (defBody s_is_from) = true := by decide +kernel
theorem f_is_from : FnScope k_is_from.N ["value", "low"] (defScope s_is_from) := C8.fnScope_by (by decide +kernel)
abbrev s_is_cell_by : Stmt := top 6
def c_is_cell_by : C :=
  (.ret (.and (.bi .isi (.cons (.v 1) (.cons (.ty "tuple") .nil))) (.and (.cmp .Eq (.bi .len (.cons (.v 1) .nil)) (.v 0)) (.bi .all (.cons (.lc [("number", 2)] (.nm 2) (.seq (.v 1)) .nil (.call 0 (.cons (.v 2) (.cons (.c (.int 0)) .nil)) .nil)) .nil)))))
def k_is_cell_by : CC := { N := ["many", "value", "number"], sc := defScope s_is_cell_by, M := [], fns := [("is_from", [], 2)], gis := [] }
theorem m_is_cell_by : mtC c_is_cell_by k_is_cell_by k_is_cell_by.M [] (defBody s_is_cell_by) = true := by decide +kernel
theorem f_is_cell_by : FnScope k_is_cell_by.N ["many", "value"] (defScope s_is_cell_by) := C8.fnScope_by (by decide +kernel)
abbrev s_check_cell : Stmt := top 35
def c_check_cell : C :=
  (.ite (.not (.call 0 (.cons (.v 0) (.cons (.v 1) .nil)) .nil))
  .never
  .nil
  .nil)
def k_check_cell : CC := { N := ["many", "cell"], sc := defScope s_check_cell, M := [], fns := [("is_cell_by", [], 2)], gis := [] }
theorem m_check_cell : mtC c_check_cell k_check_cell k_check_cell.M [] (defBody s_check_cell) = true := by decide +kernel
theorem f_check_cell : FnScope k_check_cell.N ["many", "cell"] (defScope s_check_cell) := C8.fnScope_by (by decide +kernel)
abbrev s_check_cells : Stmt := top 41
def c_check_cells : C :=
  (.drop (.call 0 (.cons (.v 0) (.cons (.gi "MOST_LETTERS" 5) .nil)) .nil)
  (.drop (.call 1 (.cons (.v 0) (.cons (.v 1) .nil)) .nil)
  (.drop (.call 1 (.cons (.v 0) (.cons (.v 2) .nil)) .nil)
  .nil)))
def k_check_cells : CC := { N := ["many", "cell", "other_cell"], sc := defScope s_check_cells, M := [], fns := [("check_many", [], 2), ("check_cell", [], 2)], gis := [("MOST_LETTERS", 5)] }
theorem m_check_cells : mtC c_check_cells k_check_cells k_check_cells.M [] (defBody s_check_cells) = true := by decide +kernel
theorem f_check_cells : FnScope k_check_cells.N ["many", "cell", "other_cell"] (defScope s_check_cells) := C8.fnScope_by (by decide +kernel)
abbrev s_is_no_more : Stmt := top 7
def c_is_no_more : C :=
  (.ret (.bi .all (.cons (.lc [("here", 2), ("there", 3)] (.tp (.tc (.nm 2) (.tc (.nm 3) .tn))) (.zip (.cons (.v 0) (.cons (.v 1) .nil))) .nil (.cmp .LtE (.v 2) (.v 3))) .nil)))
def k_is_no_more : CC := { N := ["cell", "other", "here", "there"], sc := defScope s_is_no_more, M := [], fns := [], gis := [] }
theorem m_is_no_more : mtC c_is_no_more k_is_no_more k_is_no_more.M [] (defBody s_is_no_more) = true := by decide +kernel
theorem f_is_no_more : FnScope k_is_no_more.N ["cell", "other"] (defScope s_is_no_more) := C8.fnScope_by (by decide +kernel)
abbrev s_no_more : Stmt := top 43
def c_no_more : C :=
  (.drop (.call 0 (.cons (.v 0) (.cons (.v 1) (.cons (.v 2) .nil))) .nil)
  (.ret (.call 1 (.cons (.v 1) (.cons (.v 2) .nil)) .nil)))
def k_no_more : CC := { N := ["many", "cell", "other_cell"], sc := defScope s_no_more, M := [], fns := [("check_cells", [], 3), ("is_no_more", [], 2)], gis := [] }
theorem m_no_more : mtC c_no_more k_no_more k_no_more.M [] (defBody s_no_more) = true := by decide +kernel
theorem f_no_more : FnScope k_no_more.N ["many", "cell", "other_cell"] (defScope s_no_more) := C8.fnScope_by (by decide +kernel)
abbrev s_joined_cells : Stmt := top 8
def c_joined_cells : C :=
  (.ret (.bi .tuple (.cons (.lc [("here", 2), ("there", 3)] (.tp (.tc (.nm 2) (.tc (.nm 3) .tn))) (.zip (.cons (.v 0) (.cons (.v 1) .nil))) .nil (.bi .max2 (.cons (.v 2) (.cons (.v 3) .nil)))) .nil)))
def k_joined_cells : CC := { N := ["cell", "other", "here", "there"], sc := defScope s_joined_cells, M := [], fns := [], gis := [] }
theorem m_joined_cells : mtC c_joined_cells k_joined_cells k_joined_cells.M [] (defBody s_joined_cells) = true := by decide +kernel
theorem f_joined_cells : FnScope k_joined_cells.N ["cell", "other"] (defScope s_joined_cells) := C8.fnScope_by (by decide +kernel)
abbrev s_joined : Stmt := top 44
def c_joined : C :=
  (.drop (.call 0 (.cons (.v 0) (.cons (.v 1) (.cons (.v 2) .nil))) .nil)
  (.ret (.call 1 (.cons (.v 1) (.cons (.v 2) .nil)) .nil)))
def k_joined : CC := { N := ["many", "cell", "other_cell"], sc := defScope s_joined, M := [], fns := [("check_cells", [], 3), ("joined_cells", [], 2)], gis := [] }
theorem m_joined : mtC c_joined k_joined k_joined.M [] (defBody s_joined) = true := by decide +kernel
theorem f_joined : FnScope k_joined.N ["many", "cell", "other_cell"] (defScope s_joined) := C8.fnScope_by (by decide +kernel)
abbrev s_over_cell : Stmt := top 9
def c_over_cell : C :=
  (.ret (.bi .tuple (.cons (.lc [("here", 2), ("there", 3)] (.tp (.tc (.nm 2) (.tc (.nm 3) .tn))) (.zip (.cons (.v 0) (.cons (.v 1) .nil))) .nil (.bi .max2 (.cons (.bin .Sub (.v 2) (.v 3)) (.cons (.c (.int 0)) .nil)))) .nil)))
def k_over_cell : CC := { N := ["cell", "other", "here", "there"], sc := defScope s_over_cell, M := [], fns := [], gis := [] }
theorem m_over_cell : mtC c_over_cell k_over_cell k_over_cell.M [] (defBody s_over_cell) = true := by decide +kernel
theorem f_over_cell : FnScope k_over_cell.N ["cell", "other"] (defScope s_over_cell) := C8.fnScope_by (by decide +kernel)
abbrev s_over : Stmt := top 45
def c_over : C :=
  (.drop (.call 0 (.cons (.v 0) (.cons (.v 1) (.cons (.v 2) .nil))) .nil)
  (.ret (.call 1 (.cons (.v 1) (.cons (.v 2) .nil)) .nil)))
def k_over : CC := { N := ["many", "cell", "other_cell"], sc := defScope s_over, M := [], fns := [("check_cells", [], 3), ("over_cell", [], 2)], gis := [] }
theorem m_over : mtC c_over k_over k_over.M [] (defBody s_over) = true := by decide +kernel
theorem f_over : FnScope k_over.N ["many", "cell", "other_cell"] (defScope s_over) := C8.fnScope_by (by decide +kernel)
abbrev s_support_of : Stmt := top 11
def c_support_of : C :=
  (.ret (.bi .tuple (.cons (.lc [("at", 1), ("number", 2)] (.tp (.tc (.nm 1) (.tc (.nm 2) .tn))) (.enum (.cons (.v 0) .nil)) (.cmp .Gt (.v 2) (.c (.int 0))) (.v 1)) .nil)))
def k_support_of : CC := { N := ["cell", "at", "number"], sc := defScope s_support_of, M := [], fns := [], gis := [] }
theorem m_support_of : mtC c_support_of k_support_of k_support_of.M [] (defBody s_support_of) = true := by decide +kernel
theorem f_support_of : FnScope k_support_of.N ["cell"] (defScope s_support_of) := C8.fnScope_by (by decide +kernel)
abbrev s_support : Stmt := top 47
def c_support : C :=
  (.drop (.call 0 (.cons (.v 0) (.cons (.gi "MOST_LETTERS" 5) .nil)) .nil)
  (.drop (.call 1 (.cons (.v 0) (.cons (.v 1) .nil)) .nil)
  (.ret (.call 2 (.cons (.v 1) .nil) .nil))))
def k_support : CC := { N := ["many", "cell"], sc := defScope s_support, M := [], fns := [("check_many", [], 2), ("check_cell", [], 2), ("support_of", [], 1)], gis := [("MOST_LETTERS", 5)] }
theorem m_support : mtC c_support k_support k_support.M [] (defBody s_support) = true := by decide +kernel
theorem f_support : FnScope k_support.N ["many", "cell"] (defScope s_support) := C8.fnScope_by (by decide +kernel)
abbrev s_is_body_by : Stmt := top 14
def c_is_body_by : C :=
  (.ite (.or (.not (.bi .isi (.cons (.v 1) (.cons (.ty "tuple") .nil)))) (.not (.bi .all (.cons (.lc [("cell", 4)] (.nm 4) (.seq (.v 1)) .nil (.call 0 (.cons (.v 0) (.cons (.v 4) .nil)) .nil)) .nil))))
  (.ret (.c (.bl false)))
  .nil
  (.ite (.not (.bi .all (.cons (.lc [("here", 2), ("there", 3)] (.tp (.tc (.nm 2) (.tc (.nm 3) .tn))) (.zip (.cons (.v 1) (.cons (.sl (.v 1) (.c (.int 1)) .nil) .nil))) .nil (.cmp .Lt (.v 2) (.v 3))) .nil)))
  (.ret (.c (.bl false)))
  .nil
  (.ret (.not (.bi .any (.cons (.lc2 [("here", 2), ("there", 3)] (.nm 2) (.seq (.v 1)) .nil [3] (.nm 3) (.seq (.v 1)) (.cmp .NotEq (.v 2) (.v 3)) (.call 1 (.cons (.v 2) (.cons (.v 3) .nil)) .nil)) .nil))))))
def k_is_body_by : CC := { N := ["many", "value", "here", "there", "cell"], sc := defScope s_is_body_by, M := [], fns := [("is_cell_by", [], 2), ("is_no_more", [], 2)], gis := [] }
theorem m_is_body_by : mtC c_is_body_by k_is_body_by k_is_body_by.M [] (defBody s_is_body_by) = true := by decide +kernel
theorem f_is_body_by : FnScope k_is_body_by.N ["many", "value"] (defScope s_is_body_by) := C8.fnScope_by (by decide +kernel)
abbrev s_check_body : Stmt := top 36
def c_check_body : C :=
  (.ite (.or (.not (.bi .isi (.cons (.v 1) (.cons (.ty "tuple") .nil)))) (.or (.cmp .Gt (.bi .len (.cons (.v 1) .nil)) (.gi "MOST_CORNERS" 60)) (.not (.call 0 (.cons (.v 0) (.cons (.v 1) .nil)) .nil))))
  .never
  .nil
  .nil)
def k_check_body : CC := { N := ["many", "body"], sc := defScope s_check_body, M := [], fns := [("is_body_by", [], 2)], gis := [("MOST_CORNERS", 60)] }
theorem m_check_body : mtC c_check_body k_check_body k_check_body.M [] (defBody s_check_body) = true := by decide +kernel
theorem f_check_body : FnScope k_check_body.N ["many", "body"] (defScope s_check_body) := C8.fnScope_by (by decide +kernel)
abbrev s_check_one : Stmt := top 37
def c_check_one : C :=
  (.drop (.call 0 (.cons (.v 0) (.cons (.gi "MOST_LETTERS" 5) .nil)) .nil)
  (.drop (.call 1 (.cons (.v 0) (.cons (.v 1) .nil)) .nil)
  .nil))
def k_check_one : CC := { N := ["many", "body"], sc := defScope s_check_one, M := [], fns := [("check_many", [], 2), ("check_body", [], 2)], gis := [("MOST_LETTERS", 5)] }
theorem m_check_one : mtC c_check_one k_check_one k_check_one.M [] (defBody s_check_one) = true := by decide +kernel
theorem f_check_one : FnScope k_check_one.N ["many", "body"] (defScope s_check_one) := C8.fnScope_by (by decide +kernel)
abbrev s_few : Stmt := top 39
def c_few : C :=
  (.ite (.cmp .Gt (.bi .len (.cons (.v 0) .nil)) (.gi "MOST_CORNERS" 60))
  .never
  .nil
  (.ret (.v 0)))
def k_few : CC := { N := ["found"], sc := defScope s_few, M := [], fns := [], gis := [("MOST_CORNERS", 60)] }
theorem m_few : mtC c_few k_few k_few.M [] (defBody s_few) = true := by decide +kernel
theorem f_few : FnScope k_few.N ["found"] (defScope s_few) := C8.fnScope_by (by decide +kernel)
abbrev s_noughts : Stmt := top 10
def c_noughts : C :=
  (.ret (.bi .tuple (.cons (.lc [("_", 1)] (.nm 1) (.rng1 (.cons (.v 0) .nil)) .nil (.c (.int 0))) .nil)))
def k_noughts : CC := { N := ["many", "_"], sc := defScope s_noughts, M := [], fns := [], gis := [] }
theorem m_noughts : mtC c_noughts k_noughts k_noughts.M [] (defBody s_noughts) = true := by decide +kernel
theorem f_noughts : FnScope k_noughts.N ["many"] (defScope s_noughts) := C8.fnScope_by (by decide +kernel)
abbrev s_is_no_wider : Stmt := top 28
def c_is_no_wider : C :=
  (.ret (.bi .all (.cons (.lc [("here", 2), ("there", 3)] (.tp (.tc (.nm 2) (.tc (.nm 3) .tn))) (.zip (.cons (.v 0) (.cons (.v 1) .nil))) .nil (.or (.cmp .Eq (.v 3) (.c (.int 0))) (.chain .Lt .LtE (.c (.int 0)) (.v 2) (.v 3)))) .nil)))
def k_is_no_wider : CC := { N := ["wall", "other", "here", "there"], sc := defScope s_is_no_wider, M := [], fns := [], gis := [] }
theorem m_is_no_wider : mtC c_is_no_wider k_is_no_wider k_is_no_wider.M [] (defBody s_is_no_wider) = true := by decide +kernel
theorem f_is_no_wider : FnScope k_is_no_wider.N ["wall", "other"] (defScope s_is_no_wider) := C8.fnScope_by (by decide +kernel)
abbrev s_walls_with : Stmt := top 29
def c_walls_with : C :=
  (.set 1 (.lds [("wall", 2)] (.nm 2) (.seq (.v 0)) (.v 2))
  (.ret (.bi .tuple (.cons (.bi .sorted (.cons (.lc [("wall", 2)] (.nm 2) (.seq (.v 1)) (.not (.bi .any (.cons (.lc [("other", 3)] (.nm 3) (.seq (.v 1)) (.cmp .NotEq (.v 3) (.v 2)) (.call 0 (.cons (.v 2) (.cons (.v 3) .nil)) .nil)) .nil))) (.v 2)) .nil)) .nil))))
def k_walls_with : CC := { N := ["walls", "some", "wall", "other"], sc := defScope s_walls_with, M := [], fns := [("is_no_wider", [], 2)], gis := [] }
theorem m_walls_with : mtC c_walls_with k_walls_with k_walls_with.M [] (defBody s_walls_with) = true := by decide +kernel
theorem f_walls_with : FnScope k_walls_with.N ["walls"] (defScope s_walls_with) := C8.fnScope_by (by decide +kernel)
abbrev s_does_bar : Stmt := top 27
def c_does_bar : C :=
  (.ret (.bi .all (.cons (.lc [("number", 2), ("there", 3)] (.tp (.tc (.nm 2) (.tc (.nm 3) .tn))) (.zip (.cons (.v 0) (.cons (.v 1) .nil))) .nil (.or (.cmp .Eq (.v 2) (.c (.int 0))) (.cmp .Lt (.v 3) (.v 2)))) .nil)))
def k_does_bar : CC := { N := ["wall", "cell", "number", "there"], sc := defScope s_does_bar, M := [], fns := [], gis := [] }
theorem m_does_bar : mtC c_does_bar k_does_bar k_does_bar.M [] (defBody s_does_bar) = true := by decide +kernel
theorem f_does_bar : FnScope k_does_bar.N ["wall", "cell"] (defScope s_does_bar) := C8.fnScope_by (by decide +kernel)
abbrev s_is_clear_of : Stmt := top 31
def c_is_clear_of : C :=
  (.ret (.not (.call 0 (.cons (.v 0) (.cons (.v 1) .nil)) .nil)))
def k_is_clear_of : CC := { N := ["wall", "corner"], sc := defScope s_is_clear_of, M := [], fns := [("does_bar", [], 2)], gis := [] }
theorem m_is_clear_of : mtC c_is_clear_of k_is_clear_of k_is_clear_of.M [] (defBody s_is_clear_of) = true := by decide +kernel
theorem f_is_clear_of : FnScope k_is_clear_of.N ["wall", "corner"] (defScope s_is_clear_of) := C8.fnScope_by (by decide +kernel)
abbrev s_narrowed : Stmt := top 30
def c_narrowed : C :=
  (.own 2 (.lst .nil)
  (.for_ (.nm 3) (.seq (.call 0 (.cons (.v 1) .nil) .nil))
  (.set 4 (.ite (.cmp .Eq (.ix (.v 0) (.v 3)) (.c (.int 0))) (.ix (.v 1) (.v 3)) (.bi .min2 (.cons (.ix (.v 0) (.v 3)) (.cons (.ix (.v 1) (.v 3)) .nil))))
  (.app 2 (.tup (.star (.sl (.v 0) .nil (.v 3)) (.cons (.v 4) (.star (.sl (.v 0) (.bin .Add (.v 3) (.c (.int 1))) .nil) .nil))))
  .nil))
  (.rel 2 (.ret (.v 2)))))
def k_narrowed : CC := { N := ["wall", "corner", "found", "letter", "number"], sc := defScope s_narrowed, M := [2], fns := [("support_of", [], 1)], gis := [] }
theorem m_narrowed : mtC c_narrowed k_narrowed k_narrowed.M [] (defBody s_narrowed) = true := by decide +kernel
theorem f_narrowed : FnScope k_narrowed.N ["wall", "corner"] (defScope s_narrowed) := C8.fnScope_by (by decide +kernel)
abbrev s_walls_by : Stmt := top 32
def c_walls_by : C :=
  (.set 2 (.tup (.cons (.call 0 (.cons (.v 0) .nil) .nil) .nil))
  (.for_ (.nm 3) (.seq (.v 1))
  (.set 4 (.lc [("wall", 6)] (.nm 6) (.seq (.v 2)) (.call 1 (.cons (.v 6) (.cons (.v 3) .nil)) .nil) (.v 6))
  (.set 5 (.lc2 [("wall", 6), ("each", 7)] (.nm 6) (.seq (.v 2)) (.not (.call 1 (.cons (.v 6) (.cons (.v 3) .nil)) .nil)) [7] (.nm 7) (.seq (.call 2 (.cons (.v 6) (.cons (.v 3) .nil)) .nil)) .nil (.v 7))
  (.set 2 (.call 3 (.cons (.bin .Add (.v 4) (.v 5)) .nil) .nil)
  .nil)))
  (.ret (.v 2))))
def k_walls_by : CC := { N := ["many", "body", "found", "corner", "clear", "fresh", "wall", "each"], sc := defScope s_walls_by, M := [], fns := [("noughts", [], 1), ("is_clear_of", [], 2), ("narrowed", [], 2), ("walls_with", [], 1)], gis := [] }
theorem m_walls_by : mtC c_walls_by k_walls_by k_walls_by.M [] (defBody s_walls_by) = true := by decide +kernel
theorem f_walls_by : FnScope k_walls_by.N ["many", "body"] (defScope s_walls_by) := C8.fnScope_by (by decide +kernel)
abbrev s_walls_of : Stmt := top 53
def c_walls_of : C :=
  (.drop (.call 0 (.cons (.v 0) (.cons (.v 1) .nil)) .nil)
  (.ret (.call 1 (.cons (.call 2 (.cons (.v 0) (.cons (.v 1) .nil)) .nil) .nil) .nil)))
def k_walls_of : CC := { N := ["many", "body"], sc := defScope s_walls_of, M := [], fns := [("check_one", [], 2), ("few", [], 1), ("walls_by", [], 2)], gis := [] }
theorem m_walls_of : mtC c_walls_of k_walls_of k_walls_of.M [] (defBody s_walls_of) = true := by decide +kernel
theorem f_walls_of : FnScope k_walls_of.N ["many", "body"] (defScope s_walls_of) := C8.fnScope_by (by decide +kernel)
abbrev s_total_of : Stmt := top 46
def c_total_of : C :=
  (.drop (.call 0 (.cons (.v 0) (.cons (.gi "MOST_LETTERS" 5) .nil)) .nil)
  (.drop (.call 1 (.cons (.v 0) (.cons (.v 1) .nil)) .nil)
  (.ret (.bi .sum (.cons (.v 1) .nil)))))
def k_total_of : CC := { N := ["many", "cell"], sc := defScope s_total_of, M := [], fns := [("check_many", [], 2), ("check_cell", [], 2)], gis := [("MOST_LETTERS", 5)] }
theorem m_total_of : mtC c_total_of k_total_of k_total_of.M [] (defBody s_total_of) = true := by decide +kernel
theorem f_total_of : FnScope k_total_of.N ["many", "cell"] (defScope s_total_of) := C8.fnScope_by (by decide +kernel)
abbrev s_is_cell : Stmt := top 42
def c_is_cell : C :=
  (.drop (.call 0 (.cons (.v 0) (.cons (.gi "MOST_LETTERS" 5) .nil)) .nil)
  (.ret (.call 1 (.cons (.v 0) (.cons (.v 1) .nil)) .nil)))
def k_is_cell : CC := { N := ["many", "value"], sc := defScope s_is_cell, M := [], fns := [("check_many", [], 2), ("is_cell_by", [], 2)], gis := [("MOST_LETTERS", 5)] }
theorem m_is_cell : mtC c_is_cell k_is_cell k_is_cell.M [] (defBody s_is_cell) = true := by decide +kernel
theorem f_is_cell : FnScope k_is_cell.N ["many", "value"] (defScope s_is_cell) := C8.fnScope_by (by decide +kernel)
abbrev s_has_cell : Stmt := top 16
def c_has_cell : C :=
  (.ret (.bi .any (.cons (.lc [("corner", 2)] (.nm 2) (.seq (.v 0)) .nil (.call 0 (.cons (.v 2) (.cons (.v 1) .nil)) .nil)) .nil)))
def k_has_cell : CC := { N := ["body", "cell", "corner"], sc := defScope s_has_cell, M := [], fns := [("is_no_more", [], 2)], gis := [] }
theorem m_has_cell : mtC c_has_cell k_has_cell k_has_cell.M [] (defBody s_has_cell) = true := by decide +kernel
theorem f_has_cell : FnScope k_has_cell.N ["body", "cell"] (defScope s_has_cell) := C8.fnScope_by (by decide +kernel)
abbrev s_has : Stmt := top 49
def c_has : C :=
  (.drop (.call 0 (.cons (.v 0) (.cons (.v 1) .nil)) .nil)
  (.drop (.call 1 (.cons (.v 0) (.cons (.v 2) .nil)) .nil)
  (.ret (.call 2 (.cons (.v 1) (.cons (.v 2) .nil)) .nil))))
def k_has : CC := { N := ["many", "body", "cell"], sc := defScope s_has, M := [], fns := [("check_one", [], 2), ("check_cell", [], 2), ("has_cell", [], 2)], gis := [] }
theorem m_has : mtC c_has k_has k_has.M [] (defBody s_has) = true := by decide +kernel
theorem f_has : FnScope k_has.N ["many", "body", "cell"] (defScope s_has) := C8.fnScope_by (by decide +kernel)
abbrev s_check_two : Stmt := top 38
def c_check_two : C :=
  (.drop (.call 0 (.cons (.v 0) (.cons (.v 1) .nil)) .nil)
  (.drop (.call 1 (.cons (.v 0) (.cons (.v 2) .nil)) .nil)
  .nil))
def k_check_two : CC := { N := ["many", "body", "other"], sc := defScope s_check_two, M := [], fns := [("check_one", [], 2), ("check_body", [], 2)], gis := [] }
theorem m_check_two : mtC c_check_two k_check_two k_check_two.M [] (defBody s_check_two) = true := by decide +kernel
theorem f_check_two : FnScope k_check_two.N ["many", "body", "other"] (defScope s_check_two) := C8.fnScope_by (by decide +kernel)
abbrev s_body_with : Stmt := top 15
def c_body_with : C :=
  (.own 1 (.lst .nil)
  (.for_ (.nm 2) (.seq (.sds [("each", 3)] (.nm 3) (.seq (.v 0)) (.v 3)))
  (.ite (.not (.bi .any (.cons (.lc [("each", 3)] (.nm 3) (.seq (.v 1)) .nil (.call 0 (.cons (.v 3) (.cons (.v 2) .nil)) .nil)) .nil)))
  (.app 1 (.v 2)
  .nil)
  .nil
  .nil)
  (.ret (.bi .tuple (.cons (.bi .sorted (.cons (.v 1) .nil)) .nil)))))
def k_body_with : CC := { N := ["cells", "found", "cell", "each"], sc := defScope s_body_with, M := [1], fns := [("is_no_more", [], 2)], gis := [] }
theorem m_body_with : mtC c_body_with k_body_with k_body_with.M [] (defBody s_body_with) = true := by decide +kernel
theorem f_body_with : FnScope k_body_with.N ["cells"] (defScope s_body_with) := C8.fnScope_by (by decide +kernel)
abbrev s_both_of : Stmt := top 17
def c_both_of : C :=
  (.ret (.call 0 (.cons (.lc2 [("here", 2), ("there", 3)] (.nm 2) (.seq (.v 0)) .nil [3] (.nm 3) (.seq (.v 1)) .nil (.call 1 (.cons (.v 2) (.cons (.v 3) .nil)) .nil)) .nil) .nil))
def k_both_of : CC := { N := ["body", "other", "here", "there"], sc := defScope s_both_of, M := [], fns := [("body_with", [], 1), ("joined_cells", [], 2)], gis := [] }
theorem m_both_of : mtC c_both_of k_both_of k_both_of.M [] (defBody s_both_of) = true := by decide +kernel
theorem f_both_of : FnScope k_both_of.N ["body", "other"] (defScope s_both_of) := C8.fnScope_by (by decide +kernel)
abbrev s_both : Stmt := top 50
def c_both : C :=
  (.drop (.call 0 (.cons (.v 0) (.cons (.v 1) (.cons (.v 2) .nil))) .nil)
  (.ret (.call 1 (.cons (.call 2 (.cons (.v 1) (.cons (.v 2) .nil)) .nil) .nil) .nil)))
def k_both : CC := { N := ["many", "body", "other"], sc := defScope s_both, M := [], fns := [("check_two", [], 3), ("few", [], 1), ("both_of", [], 2)], gis := [] }
theorem m_both : mtC c_both k_both k_both.M [] (defBody s_both) = true := by decide +kernel
theorem f_both : FnScope k_both.N ["many", "body", "other"] (defScope s_both) := C8.fnScope_by (by decide +kernel)
abbrev s_over_corner : Stmt := top 18
def c_over_corner : C :=
  (.ret (.call 0 (.cons (.lc [("corner", 2)] (.nm 2) (.seq (.v 0)) .nil (.call 1 (.cons (.v 2) (.cons (.v 1) .nil)) .nil)) .nil) .nil))
def k_over_corner : CC := { N := ["body", "cell", "corner"], sc := defScope s_over_corner, M := [], fns := [("body_with", [], 1), ("over_cell", [], 2)], gis := [] }
theorem m_over_corner : mtC c_over_corner k_over_corner k_over_corner.M [] (defBody s_over_corner) = true := by decide +kernel
theorem f_over_corner : FnScope k_over_corner.N ["body", "cell"] (defScope s_over_corner) := C8.fnScope_by (by decide +kernel)
abbrev s_divided_by : Stmt := top 19
def c_divided_by : C :=
  (.set 3 (.tup (.cons (.call 0 (.cons (.v 0) .nil) .nil) .nil))
  (.for_ (.nm 4) (.seq (.v 2))
  (.set 3 (.call 1 (.cons (.v 3) (.cons (.call 2 (.cons (.v 1) (.cons (.v 4) .nil)) .nil) .nil)) .nil)
  .nil)
  (.ret (.v 3))))
def k_divided_by : CC := { N := ["many", "body", "other", "found", "cell"], sc := defScope s_divided_by, M := [], fns := [("noughts", [], 1), ("both_of", [], 2), ("over_corner", [], 2)], gis := [] }
theorem m_divided_by : mtC c_divided_by k_divided_by k_divided_by.M [] (defBody s_divided_by) = true := by decide +kernel
theorem f_divided_by : FnScope k_divided_by.N ["many", "body", "other"] (defScope s_divided_by) := C8.fnScope_by (by decide +kernel)
abbrev s_divided : Stmt := top 51
def c_divided : C :=
  (.drop (.call 0 (.cons (.v 0) (.cons (.v 1) (.cons (.v 2) .nil))) .nil)
  (.ret (.call 1 (.cons (.call 2 (.cons (.v 0) (.cons (.v 1) (.cons (.v 2) .nil))) .nil) .nil) .nil)))
def k_divided : CC := { N := ["many", "body", "other"], sc := defScope s_divided, M := [], fns := [("check_two", [], 3), ("few", [], 1), ("divided_by", [], 3)], gis := [] }
theorem m_divided : mtC c_divided k_divided k_divided.M [] (defBody s_divided) = true := by decide +kernel
theorem f_divided : FnScope k_divided.N ["many", "body", "other"] (defScope s_divided) := C8.fnScope_by (by decide +kernel)
abbrev s_law_right : Stmt := top 61
def c_law_right : C :=
  (.for_ (.nm 1) (.rng1 (.cons (.c (.int 30)) .nil))
  (.set 2 (.bin .Add (.c (.int 1)) (.bin .Mod (.bi .int (.cons (.v 1) .nil)) (.c (.int 5))))
  (.tgt (.tp (.tc (.nm 3) (.tc (.nm 4) .tn))) (.tup (.cons (.call 0 (.cons (.v 0) (.cons (.v 2) .nil)) .nil) (.cons (.call 0 (.cons (.v 0) (.cons (.v 2) .nil)) .nil) .nil)))
  (.set 5 (.call 1 (.cons (.v 0) (.cons (.v 2) .nil)) .nil)
  (.set 4 (.ite (.cmp .Gt (.v 1) (.c (.int 15))) (.bin .Add (.bin .Add (.sl (.v 3) .nil (.v 5)) (.tup (.cons (.ix (.v 4) (.v 5)) .nil))) (.sl (.v 3) (.bin .Add (.v 5) (.c (.int 1))) .nil)) (.v 4))
  (.set 6 (.call 2 (.cons (.v 3) (.cons (.v 4) .nil)) .nil)
  (.set 7 (.bi .tuple (.cons (.lc [("a", 12), ("b", 13)] (.tp (.tc (.nm 12) (.tc (.nm 13) .tn))) (.zip (.cons (.v 3) (.cons (.v 4) .nil))) .nil (.ite (.cmp .Lt (.v 12) (.v 13)) (.v 13) (.v 12))) .nil))
  (.set 8 (.bi .tuple (.cons (.lc [("a", 12), ("b", 13)] (.tp (.tc (.nm 12) (.tc (.nm 13) .tn))) (.zip (.cons (.v 3) (.cons (.v 4) .nil))) .nil (.ite (.cmp .Gt (.v 12) (.v 13)) (.bin .Sub (.v 12) (.v 13)) (.c (.int 0)))) .nil))
  (.ite (.not (.call 3 (.cons (.tup (.cons (.call 4 (.cons (.v 2) (.cons (.v 3) (.cons (.v 4) .nil))) .nil) (.cons (.call 5 .nil (.cons (.v 4) (.cons (.v 3) (.cons (.v 2) .nil)))) (.cons (.call 4 (.cons (.v 2) (.cons (.v 4) (.cons (.v 3) .nil))) .nil) .nil)))) (.cons (.tup (.cons (.v 6) (.cons (.v 6) (.cons (.call 2 (.cons (.v 4) (.cons (.v 3) .nil)) .nil) .nil)))) .nil)) .nil))
  (.ret (.c (.bl false)))
  .nil
  (.ite (.not (.call 3 (.cons (.tup (.cons (.call 6 (.cons (.v 2) (.cons (.v 3) (.cons (.v 4) .nil))) .nil) (.cons (.call 7 .nil (.cons (.v 4) (.cons (.v 3) (.cons (.v 2) .nil)))) (.cons (.call 6 (.cons (.v 2) (.cons (.v 4) (.cons (.v 3) .nil))) .nil) .nil)))) (.cons (.bin .Mult (.tup (.cons (.v 7) .nil)) (.c (.int 3))) .nil)) .nil))
  (.ret (.c (.bl false)))
  .nil
  (.ite (.or (.not (.call 3 (.cons (.tup (.cons (.call 8 (.cons (.v 2) (.cons (.v 3) (.cons (.v 4) .nil))) .nil) (.cons (.call 9 .nil (.cons (.v 4) (.cons (.v 3) (.cons (.v 2) .nil)))) .nil))) (.cons (.tup (.cons (.v 8) (.cons (.v 8) .nil))) .nil)) .nil)) (.cmp .NotEq (.v 6) (.cmp .Eq (.call 8 (.cons (.v 2) (.cons (.v 3) (.cons (.v 4) .nil))) .nil) (.bin .Mult (.tup (.cons (.c (.int 0)) .nil)) (.v 2)))))
  (.ret (.c (.bl false)))
  .nil
  (.par 9 10 (.bi .tuple (.cons (.lc [("letter", 14)] (.nm 14) (.rng1 (.cons (.v 2) .nil)) (.cmp .NotEq (.ix (.v 3) (.v 14)) (.c (.int 0))) (.v 14)) .nil)) (.c (.int 0))
  (.for_ (.nm 11) (.seq (.v 3))
  (.set 10 (.bin .Add (.v 10) (.v 11))
  .nil)
  (.ite (.not (.call 3 (.cons (.tup (.cons (.call 14 (.cons (.v 2) (.cons (.v 3) .nil)) .nil) (.cons (.call 13 .nil (.cons (.v 3) (.cons (.v 2) .nil))) (.cons (.call 12 (.cons (.v 2) (.cons (.v 3) .nil)) .nil) (.cons (.call 11 .nil (.cons (.v 3) (.cons (.v 2) .nil))) (.cons (.call 10 (.cons (.v 2) (.cons (.v 3) .nil)) .nil) .nil)))))) (.cons (.tup (.cons (.v 10) (.cons (.v 10) (.cons (.v 9) (.cons (.v 9) (.cons (.c (.bl true)) .nil)))))) .nil)) .nil))
  (.ret (.c (.bl false)))
  .nil
  (.ite (.not (.call 3 (.cons (.tup (.cons (.call 17 (.cons (.v 2) (.cons (.tup (.cons (.v 3) .nil)) (.cons (.v 4) .nil))) .nil) (.cons (.call 16 (.cons (.v 2) (.cons (.tup (.cons (.v 3) .nil)) (.cons (.tup (.cons (.v 4) .nil)) .nil))) .nil) (.cons (.call 15 (.cons (.v 2) (.cons (.tup (.cons (.v 3) .nil)) (.cons (.tup (.cons (.v 4) .nil)) .nil))) .nil) .nil)))) (.cons (.tup (.cons (.v 6) (.cons (.tup (.cons (.v 7) .nil)) (.cons (.tup (.cons (.v 8) .nil)) .nil)))) .nil)) .nil))
  (.ret (.c (.bl false)))
  .nil
  (.ite (.not (.call 3 (.cons (.call 18 (.cons (.v 2) (.cons (.tup (.cons (.v 3) .nil)) .nil)) .nil) (.cons (.bi .tuple (.cons (.bi .sorted (.cons (.lc [("at", 5), ("number", 11)] (.tp (.tc (.nm 5) (.tc (.nm 11) .tn))) (.enum (.cons (.v 3) .nil)) (.cmp .Gt (.v 11) (.c (.int 0))) (.bi .tuple (.cons (.lc [("letter", 14)] (.nm 14) (.rng1 (.cons (.v 2) .nil)) .nil (.ite (.cmp .Eq (.v 14) (.v 5)) (.v 11) (.c (.int 0)))) .nil))) .nil)) .nil)) .nil)) .nil))
  (.ret (.c (.bl false)))
  .nil
  .nil)))))))))))))))
  (.ret (.and (.cmp .Is (.call 4 (.cons (.c (.int 2)) (.cons (.tup (.cons (.c (.int 0)) (.cons (.c (.int 2)) .nil))) (.cons (.tup (.cons (.c (.int 1)) (.cons (.c (.int 2)) .nil))) .nil))) .nil) (.c (.bl true))) (.and (.cmp .Eq (.call 6 (.cons (.c (.int 3)) (.cons (.tup (.cons (.c (.int 1)) (.cons (.c (.int 0)) (.cons (.c (.int 2)) .nil)))) (.cons (.tup (.cons (.c (.int 0)) (.cons (.c (.int 5)) (.cons (.c (.int 2)) .nil)))) .nil))) .nil) (.tup (.cons (.c (.int 1)) (.cons (.c (.int 5)) (.cons (.c (.int 2)) .nil))))) (.and (.cmp .Eq (.call 8 (.cons (.c (.int 2)) (.cons (.tup (.cons (.c (.int 3)) (.cons (.c (.int 1)) .nil))) (.cons (.tup (.cons (.c (.int 1)) (.cons (.c (.int 4)) .nil))) .nil))) .nil) (.tup (.cons (.c (.int 2)) (.cons (.c (.int 0)) .nil)))) (.cmp .Eq (.call 12 (.cons (.c (.int 3)) (.cons (.tup (.cons (.c (.int 0)) (.cons (.c (.int 4)) (.cons (.c (.int 0)) .nil)))) .nil)) .nil) (.tup (.cons (.c (.int 1)) .nil))))))))
def k_law_right : CC := { N := ["brook", "lap", "many", "one", "two", "at", "under", "join", "left", "lot", "total", "number", "a", "b", "letter"], sc := defScope s_law_right, M := [], fns := [("_law_any", [], 2), ("_law_drop", [], 2), ("_law_under", [], 2), ("_law_even", [], 2), ("no_more", [], 3), ("no_more", ["other_cell", "cell", "many"], 0), ("joined", [], 3), ("joined", ["other_cell", "cell", "many"], 0), ("over", [], 3), ("over", ["other_cell", "cell", "many"], 0), ("is_cell", [], 2), ("support", ["cell", "many"], 0), ("support", [], 2), ("total_of", ["cell", "many"], 0), ("total_of", [], 2), ("divided", [], 3), ("both", [], 3), ("has", [], 3), ("walls_of", [], 2)], gis := [] }
theorem m_law_right : mtC c_law_right k_law_right k_law_right.M [] (defBody s_law_right) = true := by decide +kernel
theorem f_law_right : FnScope k_law_right.N ["brook"] (defScope s_law_right) := C8.fnScope_by (by decide +kernel)
abbrev s_law_brook : Stmt := top 55
def c_law_brook : C :=
  (.set 2 (.ite (.cmp .Lt (.v 1) (.bi .len (.cons (.v 0) .nil))) (.bi .int (.cons (.ix (.v 0) (.v 1)) .nil)) (.bin .Add (.c (.int 115)) (.bin .Mult (.c (.int 11)) (.v 1))))
  (.par 3 4 (.bin .Add (.c (.int 60051)) (.v 1)) (.bin .Add (.bin .Mult (.c (.int 7)) (.v 1)) (.c (.int 3)))
  (.for_ (.nm 5) (.seq (.sl (.v 0) .nil (.c (.int 16))))
  (.set 3 (.bin .Mod (.bi .int (.cons (.bin .Add (.bin .Add (.bin .Mult (.v 3) (.c (.int 69069))) (.bin .Mod (.bi .int (.cons (.v 5) .nil)) (.c (.int 4294967291)))) (.v 4)) .nil)) (.c (.int 4294967291)))
  (.set 4 (.bin .Mod (.bi .int (.cons (.bin .Add (.bin .Mult (.v 4) (.c (.int 16807))) (.v 3)) .nil)) (.c (.int 2147483647)))
  .nil))
  (.ret (.lst (.cons (.ite (.or (.cmp .Lt (.v 2) (.c (.int 0))) (.cmp .GtE (.v 2) (.bin .Pow (.c (.int 10)) (.c (.int 18))))) (.bin .Mod (.bi .int (.cons (.bi .abs (.cons (.v 2) .nil)) .nil)) (.bin .Pow (.c (.int 10)) (.c (.int 48)))) (.c (.int 0))) (.cons (.bin .Mod (.bi .int (.cons (.bin .Add (.v 3) (.bin .Mod (.v 2) (.c (.int 4294967291)))) .nil)) (.c (.int 4294967291))) (.cons (.v 4) .nil))))))))
def k_law_brook : CC := { N := ["script", "lap", "own", "one", "two", "cell"], sc := defScope s_law_brook, M := [], fns := [], gis := [], fr := true }
theorem m_law_brook : mtC c_law_brook k_law_brook k_law_brook.M [] (defBody s_law_brook) = true := by decide +kernel
theorem f_law_brook : FnScope k_law_brook.N ["script", "lap"] (defScope s_law_brook) := C8.fnScope_by (by decide +kernel)
abbrev s_law : Stmt := top 62
def c_law : C :=
  (.ret (.cmp .Eq (.lc [("lap", 1)] (.nm 1) (.rng1 (.cons (.bi .max2 (.cons (.c (.int 2)) (.cons (.bi .min2 (.cons (.bi .len (.cons (.v 0) .nil)) (.cons (.c (.int 3)) .nil))) .nil))) .nil)) (.not (.callB 0 1 (.cons (.v 0) (.cons (.v 1) .nil)))) (.c (.int 1))) (.lst .nil)))
def k_law : CC := { N := ["script", "lap"], sc := defScope s_law, M := [], fns := [("_law_brook", [], 2), ("_law_right", [], 1)], gis := [] }
theorem m_law : mtC c_law k_law k_law.M [] (defBody s_law) = true := by decide +kernel
theorem f_law : FnScope k_law.N ["script"] (defScope s_law) := C8.fnScope_by (by decide +kernel)
end K02
namespace K02
open PySem PySem.Spec PyProof.Rows L2 QL
/-! ### what the defs promise -/
def isCell (m : Int) (a : List Int) : Bool := decide ((a.length : Int) = m) && a.all fun x => decide (0 ≤ x)
def nm (a b : List Int) : Bool := (a.zip b).all fun p => decide (p.1 ≤ p.2)
def jn (a b : List Int) : List Int := (a.zip b).map fun p => max p.1 p.2
def ov (a b : List Int) : List Int := (a.zip b).map fun p => max (p.1 - p.2) 0
def supp (a : List Int) : List Int := (a.zipIdx.filter fun p => decide (0 < p.1)).map fun p => (p.2 : Int)
def nw (a b : List Int) : Bool := (a.zip b).all fun p => decide (p.2 = 0) || (decide (0 < p.1) && decide (p.1 ≤ p.2))
def db (w c : List Int) : Bool := (w.zip c).all fun p => decide (p.1 = 0) || decide (p.2 < p.1)
def bodyD (b : List (List Int)) : D := .tup (b.map tupI)
def F_is_whole : FS := fnS fun ds d => ∃ i : Int, ds = [.int i] ∧ d = .bl true
def F_is_between : FS := fnS fun ds d => ∃ i lo hi : Int, ds = [.int i, .int lo, .int hi] ∧ d = .bl (decide (lo ≤ i) && decide (i ≤ hi))
def F_is_from : FS := fnS fun ds d => ∃ i lo : Int, ds = [.int i, .int lo] ∧ d = .bl (decide (lo ≤ i))
def F_check_many : FS := fnS fun ds d => ∃ m hi : Int, ds = [.int m, .int hi] ∧ 1 ≤ m ∧ m ≤ hi ∧ d = .non
def F_is_cell_by : FS := fnS fun ds d => ∃ (m : Int) (a : List Int), ds = [.int m, tupI a] ∧ a.length ≤ 1000 ∧ d = .bl (isCell m a)
def F_check_cell : FS := fnS fun ds d => ∃ (m : Int) (a : List Int), ds = [.int m, tupI a] ∧ a.length ≤ 1000 ∧ isCell m a = true ∧ d = .non
def F_check_cells : FS := fnS fun ds d => ∃ (m : Int) (a b : List Int), ds = [.int m, tupI a, tupI b] ∧ 1 ≤ m ∧ m ≤ 5 ∧ isCell m a = true ∧ isCell m b = true ∧ d = .non
def F_is_no_more : FS := fnS fun ds d => ∃ a b : List Int, ds = [tupI a, tupI b] ∧ a.length ≤ 1000 ∧ d = .bl (nm a b)
def F_joined_cells : FS := fnS fun ds d => ∃ a b : List Int, ds = [tupI a, tupI b] ∧ a.length ≤ 1000 ∧ d = tupI (jn a b)
def F_over_cell : FS := fnS fun ds d => ∃ a b : List Int, ds = [tupI a, tupI b] ∧ a.length ≤ 1000 ∧ d = tupI (ov a b)
def F_support_of : FS := fnS fun ds d => ∃ a : List Int, ds = [tupI a] ∧ a.length ≤ 1000 ∧ d = tupI (supp a)
def F_noughts : FS := fnS fun ds d => ∃ m : Int, ds = [.int m] ∧ 0 ≤ m ∧ m ≤ 1000 ∧ d = tupI (List.replicate m.toNat 0)
def F_cc (f : Int → List Int → List Int → D) : FS := fnS fun ds d => ∃ (m : Int) (a b : List Int), ds = [.int m, tupI a, tupI b] ∧ 1 ≤ m ∧ m ≤ 5 ∧ isCell m a = true ∧ isCell m b = true ∧ d = f m a b
def F_c (f : Int → List Int → D) : FS := fnS fun ds d => ∃ (m : Int) (a : List Int), ds = [.int m, tupI a] ∧ 1 ≤ m ∧ m ≤ 5 ∧ isCell m a = true ∧ d = f m a
def F_is_no_wider : FS := fnS fun ds d => ∃ a b : List Int, ds = [tupI a, tupI b] ∧ a.length ≤ 1000 ∧ d = .bl (nw a b)
def F_does_bar : FS := fnS fun ds d => ∃ a b : List Int, ds = [tupI a, tupI b] ∧ a.length ≤ 1000 ∧ d = .bl (db a b)
def F_is_clear_of : FS := fnS fun ds d => ∃ a b : List Int, ds = [tupI a, tupI b] ∧ a.length ≤ 1000 ∧ d = .bl (!db a b)
def F_few : FS := fnS fun ds d => ∃ xs : List D, ds = [.tup xs] ∧ xs.length ≤ 60 ∧ d = .tup xs
theorem len_of {m : Int} {a : List Int} (h : isCell m a = true) : (a.length : Int) = m := by
  unfold isCell at h
  simp only [Bool.and_eq_true, decide_eq_true_eq] at h
  exact h.1
section
variable {P : Program} {w : World} {K : PySem.W.Frag} {mg : Str → Option Value} {base : Heap}
theorem d_is_whole (bi : ∀ x ∈ biNames, mg x = none) (d : DefIn K mg "is_whole" s_is_whole) : DefQ P w K mg base "is_whole" s_is_whole ["value"] 1 F_is_whole := by
  refine defQ (cc := k_is_whole) (code := c_is_whole) (l := []) d f_is_whole m_is_whole bi (fun p h => nomatch h) .nil fun ds st kk hl ⟨d, ⟨i, e, ed⟩, hk⟩ => ?_
  subst e ed
  exact ⟨_, _, rfl, rfl, rfl, true, rfl, ⟨_, _, rfl, rfl, rfl, false, rfl, hk⟩⟩
theorem d_is_between {j : Nat} (bi : ∀ x ∈ biNames, mg x = none) (d : DefIn K mg "is_between" s_is_between) (c1 : CalQ P w K mg base 1 "is_whole" [] 1 (F_is_whole.pick [0])) : DefQ P w K mg base "is_between" s_is_between ["value", "low", "high"] 2 F_is_between := by
  refine defQ (cc := k_is_between) (code := c_is_between) (l := [F_is_whole.pick [0]]) d f_is_between m_is_between bi (fun p h => nomatch h) (.cons c1 (Nat.le_refl _) .nil) fun ds st kk hl ⟨d, ⟨i, lo, hi, e, ed⟩, hk⟩ => ?_
  subst e ed
  refine ⟨rfl, rfl, .bl true, ⟨i, rfl, rfl⟩, true, rfl, ?_⟩
  show ∃ b, D.bl (decide (lo ≤ i)) = .bl b ∧ _
  refine ⟨_, rfl, ?_⟩
  cases h : decide (lo ≤ i) with
  | true => rw [h] at hk; exact hk
  | false => rw [h] at hk; exact hk
theorem d_is_from (bi : ∀ x ∈ biNames, mg x = none) (d : DefIn K mg "is_from" s_is_from) (c1 : CalQ P w K mg base 1 "is_whole" [] 1 (F_is_whole.pick [0])) : DefQ P w K mg base "is_from" s_is_from ["value", "low"] 2 F_is_from := by
  refine defQ (cc := k_is_from) (code := c_is_from) (l := [F_is_whole.pick [0]]) d f_is_from m_is_from bi (fun p h => nomatch h) (.cons c1 (Nat.le_refl _) .nil) fun ds st kk hl ⟨d, ⟨i, lo, e, ed⟩, hk⟩ => ?_
  subst e ed
  exact ⟨rfl, rfl, .bl true, ⟨i, rfl, rfl⟩, true, rfl, hk⟩
theorem d_check_many (bi : ∀ x ∈ biNames, mg x = none) (d : DefIn K mg "check_many" s_check_many) (c1 : CalQ P w K mg base 2 "is_between" [] 3 (F_is_between.pick [0, 1, 2])) : DefQ P w K mg base "check_many" s_check_many ["many", "most"] 3 F_check_many := by
  refine defQ (cc := k_check_many) (code := c_check_many) (l := [F_is_between.pick [0, 1, 2]]) d f_check_many m_check_many bi (fun p h => nomatch h) (.cons c1 (Nat.le_refl _) .nil) fun ds st kk hl ⟨d, ⟨m, hi, e, h1, h2, ed⟩, hk⟩ => ?_
  subst e ed
  refine ⟨rfl, rfl, .bl true, ⟨m, 1, hi, rfl, by simp [h1, h2]⟩, true, rfl, false, rfl, hk⟩
theorem d_is_cell_by (bi : ∀ x ∈ biNames, mg x = none) (d : DefIn K mg "is_cell_by" s_is_cell_by) (c1 : CalQ P w K mg base 2 "is_from" [] 2 (F_is_from.pick [0, 1])) : DefQ P w K mg base "is_cell_by" s_is_cell_by ["many", "value"] 3 F_is_cell_by := by
  refine defQ (cc := k_is_cell_by) (code := c_is_cell_by) (l := [F_is_from.pick [0, 1]]) d f_is_cell_by m_is_cell_by bi (fun p h => nomatch h) (.cons c1 (Nat.le_refl _) .nil) fun ds st kk hl ⟨d, ⟨m, a, e, hz, ed⟩, hk⟩ => ?_
  subst e ed
  refine ⟨_, _, rfl, rfl, rfl, true, rfl, ?_⟩
  refine ⟨_, rfl, a.length, .inr (.inl ⟨_, rfl, by rw [List.length_map]⟩), okD_int, okD_int, ?_⟩
  refine ⟨decide ((a.length : Int) = m), by rw [show eqD (.int (a.length : Int)) (.int m) = ((a.length : Int) == m) from rfl]; congr 1, ?_⟩
  by_cases hm : (a.length : Int) = m
  · rw [decide_eq_true hm]
    refine iteT ⟨_, .inl rfl, ?_⟩
    refine wMap_map _ D.int (fun x => .bl (decide (0 ≤ x))) _ _ _ (fun x _ st K h => ⟨rfl, rfl, _, ⟨x, 0, rfl, rfl⟩, h⟩) ?_
    rw [bls_map]
    refine ⟨_, rfl, ?_⟩
    have e : ((a.map fun x => decide (0 ≤ x)).all id) = isCell m a := by
      unfold isCell
      rw [List.all_map, decide_eq_true hm, Bool.true_and]; rfl
    rw [e]
    exact hk
  · rw [decide_eq_false hm]
    refine iteF ?_
    have e : isCell m a = false := by
      unfold isCell
      rw [decide_eq_false hm, Bool.false_and]
    rw [e] at hk
    exact hk
theorem d_check_cell (bi : ∀ x ∈ biNames, mg x = none) (d : DefIn K mg "check_cell" s_check_cell) (c1 : CalQ P w K mg base 3 "is_cell_by" [] 2 (F_is_cell_by.pick [0, 1])) : DefQ P w K mg base "check_cell" s_check_cell ["many", "cell"] 4 F_check_cell := by
  refine defQ (cc := k_check_cell) (code := c_check_cell) (l := [F_is_cell_by.pick [0, 1]]) d f_check_cell m_check_cell bi (fun p h => nomatch h) (.cons c1 (Nat.le_refl _) .nil) fun ds st kk hl ⟨d, ⟨m, a, e, hz, hc, ed⟩, hk⟩ => ?_
  subst e ed
  exact ⟨rfl, rfl, .bl true, ⟨m, a, rfl, hz, by rw [hc]⟩, true, rfl, false, rfl, hk⟩
theorem d_check_cells (bi : ∀ x ∈ biNames, mg x = none) (g5 : ∃ t, mg "MOST_LETTERS" = some (.int 5 t)) (d : DefIn K mg "check_cells" s_check_cells) (c1 : CalQ P w K mg base 3 "check_many" [] 2 (F_check_many.pick [0, 1])) (c2 : CalQ P w K mg base 4 "check_cell" [] 2 (F_check_cell.pick [0, 1])) :
    DefQ P w K mg base "check_cells" s_check_cells ["many", "cell", "other_cell"] 5 F_check_cells := by
  refine defQ (cc := k_check_cells) (code := c_check_cells) (l := [F_check_many.pick [0, 1], F_check_cell.pick [0, 1]]) d f_check_cells m_check_cells bi (fun p h => by simp [k_check_cells] at h; subst h; exact g5) (.cons c1 (by decide) (.cons c2 (by decide) .nil)) fun ds st kk hl ⟨d, ⟨m, a, b, e, h1, h2, h3, h4, ed⟩, hk⟩ => ?_
  subst e ed
  have l1 := len_of h3
  have l2 := len_of h4
  exact ⟨rfl, rfl, .non, ⟨m, 5, rfl, h1, h2, rfl⟩, rfl, rfl, .non, ⟨m, a, rfl, by omega, h3, rfl⟩, rfl, rfl, .non, ⟨m, b, rfl, by omega, h4, rfl⟩, hk⟩
theorem d_is_no_more (bi : ∀ x ∈ biNames, mg x = none) (d : DefIn K mg "is_no_more" s_is_no_more) : DefQ P w K mg base "is_no_more" s_is_no_more ["cell", "other"] 1 F_is_no_more := by
  refine defQ (cc := k_is_no_more) (code := c_is_no_more) (l := []) d f_is_no_more m_is_no_more bi (fun p h => nomatch h) .nil fun ds st kk hl ⟨d, ⟨a, b, e, hz, ed⟩, hk⟩ => ?_
  subst e ed
  refine ⟨_, _, _, _, rfl, .inl rfl, .inl rfl, ?_⟩
  rw [zipD_map]
  refine wMap_map _ _ (fun p => .bl (decide (p.1 ≤ p.2))) _ _ _ (fun p _ st K h => ?_) ?_
  · exact ⟨_, rfl, rfl, _, _, rfl, _, _, rfl, rfl, h⟩
  · rw [bls_map]
    refine ⟨_, rfl, ?_⟩
    have e : (((a.zip b).map fun p => decide (p.1 ≤ p.2)).all id) = nm a b := by unfold nm; rw [List.all_map]; rfl
    rw [e]
    exact hk
theorem d_joined_cells (bi : ∀ x ∈ biNames, mg x = none) (d : DefIn K mg "joined_cells" s_joined_cells) : DefQ P w K mg base "joined_cells" s_joined_cells ["cell", "other"] 1 F_joined_cells := by
  refine defQ (cc := k_joined_cells) (code := c_joined_cells) (l := []) d f_joined_cells m_joined_cells bi (fun p h => nomatch h) .nil fun ds st kk hl ⟨d, ⟨a, b, e, hz, ed⟩, hk⟩ => ?_
  subst e ed
  refine ⟨_, _, _, _, rfl, .inl rfl, .inl rfl, ?_⟩
  rw [zipD_map]
  refine wMap_map _ _ (fun p => .int (max p.1 p.2)) _ _ _ (fun p _ st K h => ?_) ?_
  · exact ⟨_, rfl, rfl, _, _, rfl, _, _, rfl, rfl, _, _, rfl, h⟩
  · refine ⟨_, .inl rfl, ?_⟩
    rw [QL.ints_map]
    exact hk
theorem d_over_cell (bi : ∀ x ∈ biNames, mg x = none) (d : DefIn K mg "over_cell" s_over_cell) : DefQ P w K mg base "over_cell" s_over_cell ["cell", "other"] 1 F_over_cell := by
  refine defQ (cc := k_over_cell) (code := c_over_cell) (l := []) d f_over_cell m_over_cell bi (fun p h => nomatch h) .nil fun ds st kk hl ⟨d, ⟨a, b, e, hz, ed⟩, hk⟩ => ?_
  subst e ed
  refine ⟨_, _, _, _, rfl, .inl rfl, .inl rfl, ?_⟩
  rw [zipD_map]
  refine wMap_map _ _ (fun p => .int (max (p.1 - p.2) 0)) _ _ _ (fun p _ st K h => ?_) ?_
  · exact ⟨_, rfl, rfl, _, _, rfl, _, _, rfl, rfl, _, _, rfl, h⟩
  · refine ⟨_, .inl rfl, ?_⟩
    rw [QL.ints_map]
    exact hk
theorem d_support_of (bi : ∀ x ∈ biNames, mg x = none) (d : DefIn K mg "support_of" s_support_of) : DefQ P w K mg base "support_of" s_support_of ["cell"] 1 F_support_of := by
  refine defQ (cc := k_support_of) (code := c_support_of) (l := []) d f_support_of m_support_of bi (fun p h => nomatch h) .nil fun ds st kk hl ⟨d, ⟨a, e, hz, ed⟩, hk⟩ => ?_
  subst e ed
  refine ⟨_, _, rfl, .inl rfl, ?_⟩
  rw [enumD_map]
  refine wMap_fm _ _ (fun p => .int (p.2 : Nat)) (fun p => decide (0 < p.1)) _ _ _ (fun p _ st K Z h1 h2 => ?_) ?_
  · exact ⟨_, rfl, rfl, _, _, rfl, _, _, rfl, rfl, tst rfl h1 h2⟩
  · refine ⟨_, .inl rfl, ?_⟩
    rw [QL.ints_map]
    exact hk
theorem rgD0 (n : Nat) : rgD 0 n = (List.range n).map fun i => D.int (i : Nat) := by
  unfold rgD
  refine List.map_congr_left fun i _ => ?_
  rw [Int.zero_add]
theorem d_noughts (bi : ∀ x ∈ biNames, mg x = none) (d : DefIn K mg "noughts" s_noughts) : DefQ P w K mg base "noughts" s_noughts ["many"] 1 F_noughts := by
  refine defQ (cc := k_noughts) (code := c_noughts) (l := []) d f_noughts m_noughts bi (fun p h => nomatch h) .nil fun ds st kk hl ⟨d, ⟨m, e, h0, h1, ed⟩, hk⟩ => ?_
  subst e ed
  have z : (sizeLine : Int) = 16777216 := by decide
  refine ⟨m, rfl, by omega, by omega, ?_⟩
  rw [rgD0]
  refine wMap_map _ _ (fun _ => .int 0) _ _ _ (fun p _ st K h => h) ?_
  refine ⟨_, .inl rfl, ?_⟩
  have e : (List.range m.toNat).map (fun _ => D.int 0) = (List.replicate m.toNat (0 : Int)).map D.int := by
    rw [List.map_const', List.length_range, List.map_replicate]
  rw [e]
  exact hk
theorem d_two {x : Str} {sm : Stmt} {cc : CC} {code : C} {f : Int → List Int → List Int → D} {g : List Int → List Int → D} {F : FS} {j : Nat} {y : Str} (hf : ∀ m a b, f m a b = g a b) (bi : ∀ x ∈ biNames, mg x = none) (d : DefIn K mg x sm) (c1 : CalQ P w K mg base 5 "check_cells" [] 3 (F_check_cells.pick [0, 1, 2])) (c2 : CalQ P w K mg base 1 y [] 2 (F.pick [0, 1]))
    (hF : ∀ (a b : List Int) st (k : Post), a.length ≤ 1000 → k (g a b) st → F.w [tupI a, tupI b] st k) (S : FnScope cc.N ["many", "cell", "other_cell"] (defScope sm)) (hm : mtC code cc cc.M [] (defBody sm) = true)
    (hcc : cc = { N := ["many", "cell", "other_cell"], sc := defScope sm, M := [], fns := [("check_cells", [], 3), (y, [], 2)], gis := [] })
    (hcode : code = (.drop (.call 0 (.cons (.v 0) (.cons (.v 1) (.cons (.v 2) .nil))) .nil) (.ret (.call 1 (.cons (.v 1) (.cons (.v 2) .nil)) .nil)))) : DefQ P w K mg base x sm ["many", "cell", "other_cell"] 6 (F_cc f) := by
  subst hcc hcode
  refine defQ (l := [F_check_cells.pick [0, 1, 2], F.pick [0, 1]]) d S hm bi (fun p h => nomatch h) (.cons c1 (by decide) (.cons c2 (by decide) .nil)) (hM := fun i h => nomatch h) fun ds st kk hl ⟨d, ⟨m, a, b, e, h1, h2, h3, h4, ed⟩, hk⟩ => ?_
  subst e ed
  have l1 := len_of h3
  refine ⟨rfl, rfl, .non, ⟨m, a, b, rfl, h1, h2, h3, h4, rfl⟩, rfl, rfl, ?_⟩
  exact hF a b st _ (by omega) (by rw [hf] at hk; exact hk)
end
end K02
namespace K02
open PySem PySem.Spec PyProof.Rows L2 QL
/-! ### bodies -/
def gstep (found : List (List Int)) (c : List Int) : List (List Int) := if found.any (fun e => nm e c) then found else found ++ [c]
def greedy (l : List (List Int)) : List (List Int) := l.foldl gstep []
def bodyW (cs : List (List Int)) : List (List Int) := sortI (greedy ((dedup cs).mergeSort leSum))
def isBody (m : Int) (b : List (List Int)) : Bool := b.all (isCell m) && (b.zip b.tail).all (fun p => HT.lexLt p.1 p.2) && !(b.any fun h => b.any fun t => decide (h ≠ t) && nm h t)
def rowsOk (n : Nat) (b : List (List Int)) : Prop := ∀ x ∈ b, x.length = n
def F_is_body_by : FS := fnS fun ds d => ∃ (m : Int) (b : List (List Int)), ds = [.int m, bodyD b] ∧ b.length ≤ 1000 ∧ (∀ x ∈ b, x.length ≤ 1000) ∧ d = .bl (isBody m b)
def F_check_body : FS := fnS fun ds d => ∃ (m : Int) (b : List (List Int)), ds = [.int m, bodyD b] ∧ b.length ≤ 60 ∧ (∀ x ∈ b, x.length ≤ 1000) ∧ isBody m b = true ∧ d = .non
def F_check_one : FS := fnS fun ds d => ∃ (m : Int) (b : List (List Int)), ds = [.int m, bodyD b] ∧ 1 ≤ m ∧ m ≤ 5 ∧ b.length ≤ 60 ∧ isBody m b = true ∧ d = .non
def F_check_two : FS := fnS fun ds d => ∃ (m : Int) (b c : List (List Int)), ds = [.int m, bodyD b, bodyD c] ∧ 1 ≤ m ∧ m ≤ 5 ∧ b.length ≤ 60 ∧ c.length ≤ 60 ∧ isBody m b = true ∧ isBody m c = true ∧ d = .non
def F_has_cell : FS := fnS fun ds d => ∃ (b : List (List Int)) (c : List Int), ds = [bodyD b, tupI c] ∧ (∀ x ∈ b, x.length ≤ 1000) ∧ d = .bl (b.any fun x => nm x c)
def F_body_with : FS := fnS fun ds d => ∃ (cs : List (List Int)), (ds = [.lst (cs.map tupI)] ∨ ds = [.tup (cs.map tupI)]) ∧ cs.length ≤ 1000000 ∧ (∀ x ∈ cs, x ≠ [] ∧ x.length ≤ 1000) ∧ d = bodyD (bodyW cs)
def F_both_of : FS := fnS fun ds d => ∃ (n : Nat) (b c : List (List Int)), ds = [bodyD b, bodyD c] ∧ 1 ≤ n ∧ n ≤ 1000 ∧ rowsOk n b ∧ rowsOk n c ∧ b.length * c.length ≤ 1000000 ∧ d = bodyD (bodyW (b.flatMap fun h => c.map fun t => jn h t))
def F_over_corner : FS := fnS fun ds d => ∃ (n : Nat) (b : List (List Int)) (c : List Int), ds = [bodyD b, tupI c] ∧ 1 ≤ n ∧ n ≤ 1000 ∧ rowsOk n b ∧ c.length = n ∧ b.length ≤ 1000 ∧ d = bodyD (bodyW (b.map fun x => ov x c))
theorem jn_len {n : Nat} {a b : List Int} (h1 : a.length = n) (h2 : b.length = n) : (jn a b).length = n := by unfold jn; rw [List.length_map, List.length_zip]; omega
theorem ov_len {n : Nat} {a b : List Int} (h1 : a.length = n) (h2 : b.length = n) : (ov a b).length = n := by unfold ov; rw [List.length_map, List.length_zip]; omega
theorem mem_addN {acc : List (List Int)} {k x : List Int} (h : x ∈ addN acc k) : x ∈ acc ∨ x = k := by
  unfold addN at h
  split at h
  · exact .inl h
  · simpa using h
theorem mem_dedup : ∀ {cs : List (List Int)} {x : List Int}, x ∈ dedup cs → x ∈ cs := fun {cs x} h => by
  have key : ∀ (cs acc : List (List Int)), x ∈ cs.foldl addN acc → x ∈ acc ∨ x ∈ cs := fun cs => by
    induction cs with
    | nil => exact fun acc h => .inl h
    | cons c cs ih =>
      intro acc h
      rcases ih _ h with z | z
      · rcases mem_addN z with q | q
        · exact .inl q
        · exact .inr (by simp [q])
      · exact .inr (by simp [z])
  rcases key cs [] h with z | z
  · cases z
  · exact z
theorem addN_len (acc : List (List Int)) (k : List Int) : (addN acc k).length ≤ acc.length + 1 := by
  unfold addN
  split
  · omega
  · rw [List.length_append]; simp
theorem dedup_len (cs : List (List Int)) : (dedup cs).length ≤ cs.length := by
  have key : ∀ (cs acc : List (List Int)), (cs.foldl addN acc).length ≤ acc.length + cs.length := fun cs => by
    induction cs with
    | nil => exact fun acc => by simp
    | cons c cs ih =>
      intro acc
      have h1 := ih (addN acc c)
      have h2 := addN_len acc c
      simp only [List.foldl_cons, List.length_cons]
      omega
  have := key cs []
  unfold dedup
  simpa using this
theorem gstep_mem {acc : List (List Int)} {c x : List Int} (h : x ∈ gstep acc c) : x ∈ acc ∨ x = c := by
  unfold gstep at h
  split at h
  · exact .inl h
  · simpa using h
theorem gstep_len (acc : List (List Int)) (c : List Int) : (gstep acc c).length ≤ acc.length + 1 := by
  unfold gstep
  split
  · omega
  · rw [List.length_append]; simp
theorem greedy_mem {l : List (List Int)} {x : List Int} (h : x ∈ greedy l) : x ∈ l := by
  have key : ∀ (l acc : List (List Int)), x ∈ l.foldl gstep acc → x ∈ acc ∨ x ∈ l := fun l => by
    induction l with
    | nil => exact fun acc h => .inl h
    | cons c l ih =>
      intro acc h
      rcases ih _ h with z | z
      · rcases gstep_mem z with q | q
        · exact .inl q
        · exact .inr (by simp [q])
      · exact .inr (by simp [z])
  rcases key l [] h with z | z
  · cases z
  · exact z
theorem greedy_len (l : List (List Int)) : (greedy l).length ≤ l.length := by
  have key : ∀ (l acc : List (List Int)), (l.foldl gstep acc).length ≤ acc.length + l.length := fun l => by
    induction l with
    | nil => exact fun acc => by simp
    | cons c l ih =>
      intro acc
      have h1 := ih (gstep acc c)
      have h2 := gstep_len acc c
      simp only [List.foldl_cons, List.length_cons]
      omega
  have := key l []
  unfold greedy
  simpa using this
theorem bodyW_mem {cs : List (List Int)} {x : List Int} (h : x ∈ bodyW cs) : x ∈ cs := by
  unfold bodyW sortI at h
  exact mem_dedup (List.mem_mergeSort.mp (greedy_mem (List.mem_mergeSort.mp h)))
theorem bodyW_one (a : List Int) : bodyW [a] = [a] := by
  unfold bodyW greedy dedup sortI
  simp [addN, gstep]
section
variable {P : Program} {w : World} {K : PySem.W.Frag} {mg : Str → Option Value} {base : Heap}
theorem d_has_cell (bi : ∀ x ∈ biNames, mg x = none) (d : DefIn K mg "has_cell" s_has_cell) (c1 : CalQ P w K mg base 1 "is_no_more" [] 2 (F_is_no_more.pick [0, 1])) : DefQ P w K mg base "has_cell" s_has_cell ["body", "cell"] 2 F_has_cell := by
  refine defQ (cc := k_has_cell) (code := c_has_cell) (l := [F_is_no_more.pick [0, 1]]) d f_has_cell m_has_cell bi (fun p h => nomatch h) (.cons c1 (by decide) .nil) fun ds st kk hl ⟨d, ⟨b, c, e, hz, ed⟩, hk⟩ => ?_
  subst e ed
  refine ⟨_, .inl rfl, ?_⟩
  refine wMap_map _ tupI (fun x => .bl (nm x c)) _ _ _ (fun x hx st K h => ⟨rfl, rfl, _, ⟨x, c, rfl, hz x hx, rfl⟩, h⟩) ?_
  rw [bls_map]
  refine ⟨_, rfl, ?_⟩
  rw [List.any_map]
  exact hk
theorem d_few (bi : ∀ x ∈ biNames, mg x = none) (g60 : ∃ t, mg "MOST_CORNERS" = some (.int 60 t)) (d : DefIn K mg "few" s_few) : DefQ P w K mg base "few" s_few ["found"] 1 F_few := by
  refine defQ (cc := k_few) (code := c_few) (l := []) d f_few m_few bi (fun p h => by simp [k_few] at h; subst h; exact g60) .nil fun ds st kk hl ⟨d, ⟨xs, e, hz, ed⟩, hk⟩ => ?_
  subst e ed
  refine ⟨_, rfl, xs.length, .inr (.inl ⟨_, rfl, rfl⟩), ?_⟩
  have e : decide ((60 : Int) < (xs.length : Int)) = false := by simp; omega
  exact ⟨decide ((60 : Int) < (xs.length : Int)), rfl, by rw [e]; exact iteF hk⟩
theorem d_body_with (bi : ∀ x ∈ biNames, mg x = none) (d : DefIn K mg "body_with" s_body_with) (c1 : CalQ P w K mg base 1 "is_no_more" [] 2 (F_is_no_more.pick [0, 1])) : DefQ P w K mg base "body_with" s_body_with ["cells"] 2 F_body_with := by
  refine defQ (cc := k_body_with) (code := c_body_with) (l := [F_is_no_more.pick [0, 1]]) d f_body_with m_body_with bi (fun p h => nomatch h) (.cons c1 (by decide) .nil) fun ds st kk hl ⟨d, ⟨cs, e, hz, hc, ed⟩, hk⟩ => ?_
  subst ed
  have z : (sizeLine : Nat) = 16777216 := by decide
  have start : ∀ x : D, (x = .lst (cs.map tupI) ∨ x = .tup (cs.map tupI)) → ds = [x] → wS (gam [F_is_no_more.pick [0, 1]]) c_body_with { nx := fun _ st' => kk .non st', rt := kk } (startD k_body_with.N ds) st := fun x hx e => by
    subst e
    refine ⟨by simp, [], rfl, ?_⟩
    refine ⟨_, hx.symm, ?_⟩
    refine wMap_map _ tupI tupI _ _ _ (fun c _ st K h => ⟨c, rfl, h⟩) ⟨cs, rfl, ?_⟩
    refine ⟨_, .inr rfl, ?_⟩
    refine wFor_ind (.nm 2) _ _ tupI (fun done xs ρ st' => st' = st ∧ done ++ xs = (dedup cs).mergeSort leSum ∧ ∃ y, ρ = [some x, some (.lst ((greedy done).map tupI)), y, none]) [] _ _ _ ⟨rfl, rfl, none, rfl⟩ (fun done c rest ρ st' ⟨e1, e2, y, e3⟩ => ?_) (fun done ρ st' ⟨e1, e2, y, e3⟩ => ?_)
    · subst e1 e3
      intro E' hn _ _ _
      have hin : ∀ g ∈ done ++ c :: rest, g ≠ [] ∧ g.length ≤ 1000 := fun g hg => hc g (mem_dedup (List.mem_mergeSort.mp (e2 ▸ hg)))
      refine ⟨_, .inr rfl, ?_⟩
      refine wMap_map _ tupI (fun g => .bl (nm g c)) _ _ _ (fun g hg st K h => ⟨rfl, rfl, _, ⟨g, c, rfl, (hin g (by simp [greedy_mem hg])).2, rfl⟩, h⟩) ?_
      rw [bls_map]
      refine ⟨_, rfl, _, rfl, ?_⟩
      have e4 : greedy (done ++ [c]) = if (greedy done).any (fun e => nm e c) then greedy done else greedy done ++ [c] := by unfold greedy; rw [List.foldl_append]; rfl
      have e5 : ((greedy done).map (fun g => nm g c)).any id = (greedy done).any fun e => nm e c := by rw [List.any_map]; rfl
      rw [e5]
      refine ⟨_, rfl, ?_⟩
      have glen := greedy_len done
      have dl : (done ++ c :: rest).length ≤ cs.length := by rw [e2, List.length_mergeSort]; exact dedup_len cs
      rw [List.length_append, List.length_cons] at dl
      cases q : (greedy done).any (fun e => nm e c) with
      | true =>
        rw [q] at e4
        exact hn _ _ ⟨rfl, by rw [← e2, List.append_assoc]; rfl, _, by rw [e4]; rfl⟩
      | false =>
        rw [q] at e4
        refine ⟨_, rfl, ?_, hn _ _ ⟨rfl, by rw [← e2, List.append_assoc]; rfl, some (tupI c), ?_⟩⟩
        · rw [List.length_map]; omega
        · rw [e4]
          show _ = [some x, some (.lst (List.map tupI (greedy done ++ [c]))), some (tupI c), none]
          rw [List.map_append]
          rfl
    · subst e1 e3
      rw [List.append_nil] at e2
      refine ⟨_, rfl, sortOk_tupI fun g hg => (hc g (mem_dedup (List.mem_mergeSort.mp (e2 ▸ greedy_mem hg)))).1, ?_⟩
      refine ⟨_, .inl rfl, ?_⟩
      rw [sortD_tupI, e2]
      exact hk
  rcases e with e | e
  · exact start _ (.inl rfl) e
  · exact start _ (.inr rfl) e
end
end K02
namespace K02
open PySem PySem.Spec PyProof.Rows L2 QL
theorem cut_tail {α : Type} (xs : List α) : QL.cutD xs (some 1) none = xs.tail := by
  unfold QL.cutD
  have e1 : HT.sIx xs.length 0 (some 1) = min 1 xs.length := by
    unfold HT.sIx
    simp
  have e2 : HT.sIx xs.length xs.length none = xs.length := rfl
  rw [e1, e2]
  cases xs with
  | nil => rfl
  | cons x xs =>
    have : min 1 (x :: xs).length = 1 := by simp [Nat.min_def]
    rw [this]
    simp
theorem any_flat {α : Type} (b : List α) (p : α → α → Bool) (q : α → α → Bool) : ((b.flatMap fun h => (b.filter (p h)).map (q h)).any id) = b.any fun h => b.any fun t => p h t && q h t := by
  rw [List.any_flatMap]
  congr 1
  funext h
  rw [List.any_map, List.any_filter]
  rfl
section
variable {P : Program} {w : World} {K : PySem.W.Frag} {mg : Str → Option Value} {base : Heap}
theorem d_is_body_by (bi : ∀ x ∈ biNames, mg x = none) (d : DefIn K mg "is_body_by" s_is_body_by) (c1 : CalQ P w K mg base 3 "is_cell_by" [] 2 (F_is_cell_by.pick [0, 1])) (c2 : CalQ P w K mg base 1 "is_no_more" [] 2 (F_is_no_more.pick [0, 1])) : DefQ P w K mg base "is_body_by" s_is_body_by ["many", "value"] 4 F_is_body_by := by
  refine defQ (cc := k_is_body_by) (code := c_is_body_by) (l := [F_is_cell_by.pick [0, 1], F_is_no_more.pick [0, 1]]) d f_is_body_by m_is_body_by bi (fun p h => nomatch h) (.cons c1 (by decide) (.cons c2 (by decide) .nil)) fun ds st kk hl ⟨d, ⟨m, b, e, hz, hr, ed⟩, hk⟩ => ?_
  subst e ed
  have z : (sizeLine : Nat) = 16777216 := by decide
  refine ⟨_, _, rfl, rfl, rfl, true, rfl, false, rfl, ?_⟩
  refine ⟨_, .inl rfl, ?_⟩
  refine wMap_map _ tupI (fun x => .bl (isCell m x)) _ _ _ (fun x hx st K h => ⟨rfl, rfl, _, ⟨m, x, rfl, hr x hx, rfl⟩, h⟩) ?_
  rw [bls_map]
  refine ⟨_, rfl, _, rfl, ?_⟩
  have e1 : (b.map (isCell m)).all id = b.all (isCell m) := by rw [List.all_map]; rfl
  rw [e1]
  refine ⟨_, rfl, ?_⟩
  cases q1 : b.all (isCell m) with
  | false =>
    have e : isBody m b = false := by unfold isBody; rw [q1]; rfl
    rw [e] at hk
    exact hk
  | true =>
    refine iteF ?_
    show _
    refine ⟨_, rfl, _, _, _, _, rfl, .inl rfl, .inl rfl, ?_⟩
    rw [cut_map, cut_tail, zipD_map]
    refine wMap_map _ _ (fun p => .bl (HT.lexLt p.1 p.2)) _ _ _ (fun p _ st K h => ⟨_, rfl, rfl, _, _, rfl, _, _, rfl, rfl, _, _, rfl, rfl, h⟩) ?_
    rw [bls_map]
    refine ⟨_, rfl, _, rfl, ?_⟩
    have e2 : ((b.zip b.tail).map fun p => HT.lexLt p.1 p.2).all id = (b.zip b.tail).all fun p => HT.lexLt p.1 p.2 := by rw [List.all_map]; rfl
    rw [e2]
    refine ⟨_, rfl, ?_⟩
    cases q2 : (b.zip b.tail).all fun p => HT.lexLt p.1 p.2 with
    | false =>
      have e : isBody m b = false := by unfold isBody; rw [q1, q2]; rfl
      rw [e] at hk
      exact hk
    | true =>
      refine iteF ?_
      refine ⟨_, .inl rfl, b.length, ?_, ?_⟩
      · rw [List.length_map]
        exact Nat.le_trans (Nat.mul_le_mul hz hz) (by omega)
      refine wMap2_map _ (.nm 2) (.nm 3) tupI (fun h => (b.filter fun t => decide (h ≠ t)).map fun t => .bl (nm h t)) _ _ _ (fun h hh st K hK => ?_) ?_
      · refine ⟨true, rfl, iteT ⟨_, .inl rfl, by rw [List.length_map]; exact Nat.le_refl _, ?_⟩⟩
        refine wMap_fm _ tupI (fun t => .bl (nm h t)) (fun t => decide (h ≠ t)) _ _ _ (fun t ht st K Z h1 h2 => ?_) hK
        refine ⟨okC_tupI _, okC_tupI _, tst (by rw [eqD_tupI]; simp) (fun e => ⟨rfl, rfl, _, ⟨h, t, rfl, hr h hh, rfl⟩, h1 e⟩) h2⟩
      · refine ⟨b.flatMap fun h => (b.filter fun t => decide (h ≠ t)).map (nm h), ?_, ?_⟩
        · congr 2
          rw [List.map_flatMap]
          congr 1
          funext h
          rw [List.map_map]; rfl
        · refine ⟨_, rfl, ?_⟩
          have e : (!(b.flatMap fun h => (b.filter fun t => decide (h ≠ t)).map (nm h)).any id) = isBody m b := by
            rw [any_flat]
            unfold isBody
            rw [q1, q2]
            rfl
          rw [e]
          exact hk
end
end K02
namespace K02
open PySem PySem.Spec PyProof.Rows L2 QL
def F_both : FS := fnS fun ds d => ∃ (m : Int) (a b : List Int), ds = [.int m, bodyD [a], bodyD [b]] ∧ 1 ≤ m ∧ m ≤ 5 ∧ isCell m a = true ∧ isCell m b = true ∧ d = bodyD [jn a b]
def F_divided_by : FS := fnS fun ds d => ∃ (m : Int) (a b : List Int), ds = [.int m, bodyD [a], bodyD [b]] ∧ 1 ≤ m ∧ m ≤ 5 ∧ isCell m a = true ∧ isCell m b = true ∧ d = bodyD [ov a b]
def F_divided : FS := fnS fun ds d => ∃ (m : Int) (a b : List Int), ds = [.int m, bodyD [a], bodyD [b]] ∧ 1 ≤ m ∧ m ≤ 5 ∧ isCell m a = true ∧ isCell m b = true ∧ d = bodyD [ov a b]
def F_has : FS := fnS fun ds d => ∃ (m : Int) (a b : List Int), ds = [.int m, bodyD [a], tupI b] ∧ 1 ≤ m ∧ m ≤ 5 ∧ isCell m a = true ∧ isCell m b = true ∧ d = .bl (nm a b)
theorem isBody_one {m : Int} {a : List Int} (h : isCell m a = true) : isBody m [a] = true := by
  unfold isBody
  simp [h]
theorem isBody_rows {m : Int} {b : List (List Int)} (h : isBody m b = true) : ∀ x ∈ b, isCell m x = true := by
  unfold isBody at h
  simp only [Bool.and_eq_true, List.all_eq_true] at h
  exact h.1.1
theorem isCell_jn {m : Int} {a b : List Int} (h1 : isCell m a = true) (h2 : isCell m b = true) : isCell m (jn a b) = true := by
  have l1 := len_of h1
  have l2 := len_of h2
  unfold isCell at h1 ⊢
  simp only [Bool.and_eq_true, decide_eq_true_eq, List.all_eq_true] at h1 ⊢
  refine ⟨by rw [jn_len (n := a.length) rfl (by omega)]; exact h1.1, fun x hx => ?_⟩
  unfold jn at hx
  obtain ⟨p, hp, rfl⟩ := List.mem_map.mp hx
  have := h1.2 p.1 (List.of_mem_zip hp).1
  omega
theorem isCell_ov {m : Int} {a b : List Int} (h1 : isCell m a = true) (h2 : isCell m b = true) : isCell m (ov a b) = true := by
  have l1 := len_of h1
  have l2 := len_of h2
  unfold isCell at h1 ⊢
  simp only [Bool.and_eq_true, decide_eq_true_eq, List.all_eq_true] at h1 ⊢
  refine ⟨by rw [ov_len (n := a.length) rfl (by omega)]; exact h1.1, fun x hx => ?_⟩
  unfold ov at hx
  obtain ⟨p, hp, rfl⟩ := List.mem_map.mp hx
  omega
theorem jn_zero : ∀ (n : Nat) (a : List Int), a.length = n → (∀ x ∈ a, 0 ≤ x) → jn (List.replicate n 0) a = a
  | 0, [], _, _ => rfl
  | n + 1, x :: a, h, p => by
    have h1 := p x (by simp)
    have ih := jn_zero n a (by simpa using h) fun y hy => p y (by simp [hy])
    unfold jn at ih ⊢
    rw [List.replicate_succ, List.zip_cons_cons, List.map_cons, ih]
    congr 1
    show max 0 x = x
    omega
section
variable {P : Program} {w : World} {K : PySem.W.Frag} {mg : Str → Option Value} {base : Heap}
theorem d_check_body (bi : ∀ x ∈ biNames, mg x = none) (g60 : ∃ t, mg "MOST_CORNERS" = some (.int 60 t)) (d : DefIn K mg "check_body" s_check_body) (c1 : CalQ P w K mg base 4 "is_body_by" [] 2 (F_is_body_by.pick [0, 1])) : DefQ P w K mg base "check_body" s_check_body ["many", "body"] 5 F_check_body := by
  refine defQ (cc := k_check_body) (code := c_check_body) (l := [F_is_body_by.pick [0, 1]]) d f_check_body m_check_body bi (fun p h => by simp [k_check_body] at h; subst h; exact g60) (.cons c1 (by decide) .nil) fun ds st kk hl ⟨d, ⟨m, b, e, hz, hr, hb, ed⟩, hk⟩ => ?_
  subst e ed
  refine ⟨_, _, rfl, rfl, rfl, true, rfl, false, rfl, ?_⟩
  refine ⟨_, rfl, b.length, .inr (.inl ⟨_, rfl, by rw [List.length_map]⟩), ?_⟩
  refine ⟨decide ((60 : Int) < (b.length : Int)), rfl, ?_⟩
  have e : decide ((60 : Int) < (b.length : Int)) = false := by simp; omega
  rw [e]
  exact iteF ⟨rfl, rfl, .bl true, ⟨m, b, rfl, by omega, hr, by rw [hb]⟩, true, rfl, false, rfl, hk⟩
theorem d_check_one (bi : ∀ x ∈ biNames, mg x = none) (g5 : ∃ t, mg "MOST_LETTERS" = some (.int 5 t)) (d : DefIn K mg "check_one" s_check_one) (c1 : CalQ P w K mg base 3 "check_many" [] 2 (F_check_many.pick [0, 1])) (c2 : CalQ P w K mg base 5 "check_body" [] 2 (F_check_body.pick [0, 1])) : DefQ P w K mg base "check_one" s_check_one ["many", "body"] 6 F_check_one := by
  refine defQ (cc := k_check_one) (code := c_check_one) (l := [F_check_many.pick [0, 1], F_check_body.pick [0, 1]]) d f_check_one m_check_one bi (fun p h => by simp [k_check_one] at h; subst h; exact g5) (.cons c1 (by decide) (.cons c2 (by decide) .nil)) fun ds st kk hl ⟨d, ⟨m, b, e, h1, h2, hz, hb, ed⟩, hk⟩ => ?_
  subst e ed
  exact ⟨rfl, rfl, .non, ⟨m, 5, rfl, h1, h2, rfl⟩, rfl, rfl, .non, ⟨m, b, rfl, hz, fun x hx => by have := len_of (isBody_rows hb x hx); omega, hb, rfl⟩, hk⟩
theorem d_check_two (bi : ∀ x ∈ biNames, mg x = none) (d : DefIn K mg "check_two" s_check_two) (c1 : CalQ P w K mg base 6 "check_one" [] 2 (F_check_one.pick [0, 1])) (c2 : CalQ P w K mg base 5 "check_body" [] 2 (F_check_body.pick [0, 1])) : DefQ P w K mg base "check_two" s_check_two ["many", "body", "other"] 7 F_check_two := by
  refine defQ (cc := k_check_two) (code := c_check_two) (l := [F_check_one.pick [0, 1], F_check_body.pick [0, 1]]) d f_check_two m_check_two bi (fun p h => nomatch h) (.cons c1 (by decide) (.cons c2 (by decide) .nil)) fun ds st kk hl ⟨d, ⟨m, b, c, e, h1, h2, hz, hz', hb, hc, ed⟩, hk⟩ => ?_
  subst e ed
  exact ⟨rfl, rfl, .non, ⟨m, b, rfl, h1, h2, hz, hb, rfl⟩, rfl, rfl, .non, ⟨m, c, rfl, hz', fun x hx => by have := len_of (isBody_rows hc x hx); omega, hc, rfl⟩, hk⟩
theorem d_both_of (bi : ∀ x ∈ biNames, mg x = none) (d : DefIn K mg "both_of" s_both_of) (c1 : CalQ P w K mg base 2 "body_with" [] 1 (F_body_with.pick [0])) (c2 : CalQ P w K mg base 1 "joined_cells" [] 2 (F_joined_cells.pick [0, 1])) : DefQ P w K mg base "both_of" s_both_of ["body", "other"] 3 F_both_of := by
  refine defQ (cc := k_both_of) (code := c_both_of) (l := [F_body_with.pick [0], F_joined_cells.pick [0, 1]]) d f_both_of m_both_of bi (fun p h => nomatch h) (.cons c1 (by decide) (.cons c2 (by decide) .nil)) fun ds st kk hl ⟨d, ⟨n, b, c, e, h1, h2, hb, hc, hz, ed⟩, hk⟩ => ?_
  subst e ed
  have z : (sizeLine : Nat) = 16777216 := by decide
  refine ⟨_, .inl rfl, c.length, by rw [List.length_map]; omega, ?_⟩
  refine wMap2_map _ (.nm 2) (.nm 3) tupI (fun h => c.map fun t => tupI (jn h t)) _ _ _ (fun h hh st K hK => ⟨true, rfl, iteT ⟨_, .inl rfl, by rw [List.length_map]; exact Nat.le_refl _, ?_⟩⟩) ?_
  · exact wMap_map _ tupI (fun t => tupI (jn h t)) _ _ _ (fun t ht st K hK => ⟨rfl, rfl, _, ⟨h, t, rfl, by rw [hb h hh]; exact h2, rfl⟩, hK⟩) hK
  · refine ⟨rfl, rfl, _, ⟨b.flatMap fun h => c.map fun t => jn h t, .inl ?_, ?_, fun x hx => ?_, rfl⟩, hk⟩
    · show ([D.lst (b.flatMap fun h => c.map fun t => tupI (jn h t))] : DS) = [D.lst _]
      rw [List.map_flatMap]
      have : (fun h => c.map fun t => tupI (jn h t)) = fun a => (c.map fun t => jn a t).map tupI := by
        funext h
        rw [List.map_map]; rfl
      rw [this]
    · rw [List.length_flatMap]
      simp only [List.length_map]
      rw [List.map_const', List.sum_replicate_nat]
      exact hz
    · obtain ⟨h, hh, hx⟩ := List.mem_flatMap.mp hx
      obtain ⟨t, ht, rfl⟩ := List.mem_map.mp hx
      have := jn_len (hb h hh) (hc t ht)
      exact ⟨fun q => by rw [q] at this; simp at this; omega, by omega⟩
theorem d_over_corner (bi : ∀ x ∈ biNames, mg x = none) (d : DefIn K mg "over_corner" s_over_corner) (c1 : CalQ P w K mg base 2 "body_with" [] 1 (F_body_with.pick [0])) (c2 : CalQ P w K mg base 1 "over_cell" [] 2 (F_over_cell.pick [0, 1])) : DefQ P w K mg base "over_corner" s_over_corner ["body", "cell"] 3 F_over_corner := by
  refine defQ (cc := k_over_corner) (code := c_over_corner) (l := [F_body_with.pick [0], F_over_cell.pick [0, 1]]) d f_over_corner m_over_corner bi (fun p h => nomatch h) (.cons c1 (by decide) (.cons c2 (by decide) .nil)) fun ds st kk hl ⟨d, ⟨n, b, c, e, h1, h2, hb, hc, hz, ed⟩, hk⟩ => ?_
  subst e ed
  refine ⟨_, .inl rfl, ?_⟩
  refine wMap_map _ tupI (fun x => tupI (ov x c)) _ _ _ (fun x hx st K hK => ⟨rfl, rfl, _, ⟨x, c, rfl, by rw [hb x hx]; exact h2, rfl⟩, hK⟩) ?_
  refine ⟨rfl, rfl, _, ⟨b.map fun x => ov x c, .inl ?_, by rw [List.length_map]; omega, fun y hy => ?_, rfl⟩, hk⟩
  · congr 2
    rw [List.map_map]; rfl
  · obtain ⟨x, hx, rfl⟩ := List.mem_map.mp hy
    have := ov_len (hb x hx) hc
    exact ⟨fun q => by rw [q] at this; simp at this; omega, by omega⟩
theorem d_both (bi : ∀ x ∈ biNames, mg x = none) (d : DefIn K mg "both" s_both) (c1 : CalQ P w K mg base 7 "check_two" [] 3 (F_check_two.pick [0, 1, 2])) (c2 : CalQ P w K mg base 1 "few" [] 1 (F_few.pick [0])) (c3 : CalQ P w K mg base 3 "both_of" [] 2 (F_both_of.pick [0, 1])) : DefQ P w K mg base "both" s_both ["many", "body", "other"] 8 F_both := by
  refine defQ (cc := k_both) (code := c_both) (l := [F_check_two.pick [0, 1, 2], F_few.pick [0], F_both_of.pick [0, 1]]) d f_both m_both bi (fun p h => nomatch h) (.cons c1 (by decide) (.cons c2 (by decide) (.cons c3 (by decide) .nil))) fun ds st kk hl ⟨d, ⟨m, a, b, e, h1, h2, h3, h4, ed⟩, hk⟩ => ?_
  subst e ed
  have l1 := len_of h3
  have l2 := len_of h4
  refine ⟨rfl, rfl, .non, ⟨m, [a], [b], rfl, h1, h2, (by first | decide | exact (show (1 : Nat) ≤ _ from by decide)), (by first | decide | exact (show (1 : Nat) ≤ _ from by decide)), isBody_one h3, isBody_one h4, rfl⟩, rfl, rfl, ?_⟩
  refine ⟨_, ⟨a.length, [a], [b], rfl, by omega, by omega, fun x hx => by simp at hx; rw [hx], fun x hx => by simp at hx; rw [hx]; omega, (by first | decide | exact (show (1 : Nat) ≤ _ from by decide)), rfl⟩, rfl, rfl, ?_⟩
  have e : bodyW ([a].flatMap fun h => [b].map fun t => jn h t) = [jn a b] := bodyW_one _
  rw [e]
  exact ⟨_, ⟨_, rfl, (by first | decide | exact (show (1 : Nat) ≤ _ from by decide)), rfl⟩, hk⟩
theorem d_divided_by (bi : ∀ x ∈ biNames, mg x = none) (d : DefIn K mg "divided_by" s_divided_by) (c1 : CalQ P w K mg base 1 "noughts" [] 1 (F_noughts.pick [0])) (c2 : CalQ P w K mg base 3 "both_of" [] 2 (F_both_of.pick [0, 1])) (c3 : CalQ P w K mg base 3 "over_corner" [] 2 (F_over_corner.pick [0, 1])) : DefQ P w K mg base "divided_by" s_divided_by ["many", "body", "other"] 4 F_divided_by := by
  refine defQ (cc := k_divided_by) (code := c_divided_by) (l := [F_noughts.pick [0], F_both_of.pick [0, 1], F_over_corner.pick [0, 1]]) d f_divided_by m_divided_by bi (fun p h => nomatch h) (.cons c1 (by decide) (.cons c2 (by decide) (.cons c3 (by decide) .nil))) fun ds st kk hl ⟨d, ⟨m, a, b, e, h1, h2, h3, h4, ed⟩, hk⟩ => ?_
  subst e ed
  have l1 := len_of h3
  have l2 := len_of h4
  refine ⟨rfl, rfl, _, ⟨m, rfl, by omega, by omega, rfl⟩, (by first | decide | exact (show (1 : Nat) ≤ _ from by decide)), ?_⟩
  refine ⟨_, .inl rfl, ?_⟩
  refine ⟨rfl, rfl, _, ⟨a.length, [a], b, rfl, by omega, by omega, fun x hx => by simp at hx; rw [hx], by omega, (by first | decide | exact (show (1 : Nat) ≤ _ from by decide)), rfl⟩, rfl, rfl, ?_⟩
  have e1 : bodyW ([a].map fun x => ov x b) = [ov a b] := bodyW_one _
  rw [e1]
  refine ⟨_, ⟨a.length, [List.replicate m.toNat 0], [ov a b], rfl, by omega, by omega, fun x hx => by simp at hx; rw [hx, List.length_replicate]; omega, fun x hx => by simp at hx; rw [hx]; exact ov_len rfl (by omega), (by first | decide | exact (show (1 : Nat) ≤ _ from by decide)), rfl⟩, ?_⟩
  have e2 : bodyW ([List.replicate m.toNat 0].flatMap fun h => [ov a b].map fun t => jn h t) = [ov a b] := by
    have q := isCell_ov h3 h4
    have q1 := len_of q
    unfold isCell at q
    simp only [Bool.and_eq_true, decide_eq_true_eq, List.all_eq_true] at q
    show bodyW [jn (List.replicate m.toNat 0) (ov a b)] = _
    rw [jn_zero _ _ (by omega) q.2]
    exact bodyW_one _
  rw [e2]
  exact hk
theorem d_divided (bi : ∀ x ∈ biNames, mg x = none) (d : DefIn K mg "divided" s_divided) (c1 : CalQ P w K mg base 7 "check_two" [] 3 (F_check_two.pick [0, 1, 2])) (c2 : CalQ P w K mg base 1 "few" [] 1 (F_few.pick [0])) (c3 : CalQ P w K mg base 4 "divided_by" [] 3 (F_divided_by.pick [0, 1, 2])) : DefQ P w K mg base "divided" s_divided ["many", "body", "other"] 8 F_divided := by
  refine defQ (cc := k_divided) (code := c_divided) (l := [F_check_two.pick [0, 1, 2], F_few.pick [0], F_divided_by.pick [0, 1, 2]]) d f_divided m_divided bi (fun p h => nomatch h) (.cons c1 (by decide) (.cons c2 (by decide) (.cons c3 (by decide) .nil))) fun ds st kk hl ⟨d, ⟨m, a, b, e, h1, h2, h3, h4, ed⟩, hk⟩ => ?_
  subst e ed
  refine ⟨rfl, rfl, .non, ⟨m, [a], [b], rfl, h1, h2, (by first | decide | exact (show (1 : Nat) ≤ _ from by decide)), (by first | decide | exact (show (1 : Nat) ≤ _ from by decide)), isBody_one h3, isBody_one h4, rfl⟩, rfl, rfl, ?_⟩
  exact ⟨_, ⟨m, a, b, rfl, h1, h2, h3, h4, rfl⟩, rfl, rfl, _, ⟨_, rfl, (by first | decide | exact (show (1 : Nat) ≤ _ from by decide)), rfl⟩, hk⟩
theorem d_has (bi : ∀ x ∈ biNames, mg x = none) (d : DefIn K mg "has" s_has) (c1 : CalQ P w K mg base 6 "check_one" [] 2 (F_check_one.pick [0, 1])) (c2 : CalQ P w K mg base 4 "check_cell" [] 2 (F_check_cell.pick [0, 1])) (c3 : CalQ P w K mg base 2 "has_cell" [] 2 (F_has_cell.pick [0, 1])) : DefQ P w K mg base "has" s_has ["many", "body", "cell"] 7 F_has := by
  refine defQ (cc := k_has) (code := c_has) (l := [F_check_one.pick [0, 1], F_check_cell.pick [0, 1], F_has_cell.pick [0, 1]]) d f_has m_has bi (fun p h => nomatch h) (.cons c1 (by decide) (.cons c2 (by decide) (.cons c3 (by decide) .nil))) fun ds st kk hl ⟨d, ⟨m, a, b, e, h1, h2, h3, h4, ed⟩, hk⟩ => ?_
  subst e ed
  have l1 := len_of h3
  have l2 := len_of h4
  refine ⟨rfl, rfl, .non, ⟨m, [a], rfl, h1, h2, (by first | decide | exact (show (1 : Nat) ≤ _ from by decide)), isBody_one h3, rfl⟩, rfl, rfl, .non, ⟨m, b, rfl, by omega, h4, rfl⟩, rfl, rfl, _, ⟨[a], b, rfl, fun x hx => by simp at hx; rw [hx]; omega, rfl⟩, ?_⟩
  simpa using hk
theorem d_support (bi : ∀ x ∈ biNames, mg x = none) (g5 : ∃ t, mg "MOST_LETTERS" = some (.int 5 t)) (d : DefIn K mg "support" s_support) (c1 : CalQ P w K mg base 3 "check_many" [] 2 (F_check_many.pick [0, 1])) (c2 : CalQ P w K mg base 4 "check_cell" [] 2 (F_check_cell.pick [0, 1])) (c3 : CalQ P w K mg base 1 "support_of" [] 1 (F_support_of.pick [0])) :
    DefQ P w K mg base "support" s_support ["many", "cell"] 5 (F_c fun _ a => tupI (supp a)) := by
  refine defQ (cc := k_support) (code := c_support) (l := [F_check_many.pick [0, 1], F_check_cell.pick [0, 1], F_support_of.pick [0]]) d f_support m_support bi (fun p h => by simp [k_support] at h; subst h; exact g5) (.cons c1 (by decide) (.cons c2 (by decide) (.cons c3 (by decide) .nil))) fun ds st kk hl ⟨d, ⟨m, a, e, h1, h2, h3, ed⟩, hk⟩ => ?_
  subst e ed
  have l1 := len_of h3
  exact ⟨rfl, rfl, .non, ⟨m, 5, rfl, h1, h2, rfl⟩, rfl, rfl, .non, ⟨m, a, rfl, by omega, h3, rfl⟩, rfl, rfl, _, ⟨a, rfl, by omega, rfl⟩, hk⟩
theorem d_total_of (bi : ∀ x ∈ biNames, mg x = none) (g5 : ∃ t, mg "MOST_LETTERS" = some (.int 5 t)) (d : DefIn K mg "total_of" s_total_of) (c1 : CalQ P w K mg base 3 "check_many" [] 2 (F_check_many.pick [0, 1])) (c2 : CalQ P w K mg base 4 "check_cell" [] 2 (F_check_cell.pick [0, 1])) :
    DefQ P w K mg base "total_of" s_total_of ["many", "cell"] 5 (F_c fun _ a => .int a.sum) := by
  refine defQ (cc := k_total_of) (code := c_total_of) (l := [F_check_many.pick [0, 1], F_check_cell.pick [0, 1]]) d f_total_of m_total_of bi (fun p h => by simp [k_total_of] at h; subst h; exact g5) (.cons c1 (by decide) (.cons c2 (by decide) .nil)) fun ds st kk hl ⟨d, ⟨m, a, e, h1, h2, h3, ed⟩, hk⟩ => ?_
  subst e ed
  have l1 := len_of h3
  exact ⟨rfl, rfl, .non, ⟨m, 5, rfl, h1, h2, rfl⟩, rfl, rfl, .non, ⟨m, a, rfl, by omega, h3, rfl⟩, a, .inr rfl, hk⟩
theorem d_is_cell (bi : ∀ x ∈ biNames, mg x = none) (g5 : ∃ t, mg "MOST_LETTERS" = some (.int 5 t)) (d : DefIn K mg "is_cell" s_is_cell) (c1 : CalQ P w K mg base 3 "check_many" [] 2 (F_check_many.pick [0, 1])) (c2 : CalQ P w K mg base 3 "is_cell_by" [] 2 (F_is_cell_by.pick [0, 1])) :
    DefQ P w K mg base "is_cell" s_is_cell ["many", "value"] 4 (F_c fun m a => .bl true) := by
  refine defQ (cc := k_is_cell) (code := c_is_cell) (l := [F_check_many.pick [0, 1], F_is_cell_by.pick [0, 1]]) d f_is_cell m_is_cell bi (fun p h => by simp [k_is_cell] at h; subst h; exact g5) (.cons c1 (by decide) (.cons c2 (by decide) .nil)) fun ds st kk hl ⟨d, ⟨m, a, e, h1, h2, h3, ed⟩, hk⟩ => ?_
  subst e ed
  have l1 := len_of h3
  exact ⟨rfl, rfl, .non, ⟨m, 5, rfl, h1, h2, rfl⟩, rfl, rfl, _, ⟨m, a, rfl, by omega, rfl⟩, by rw [h3]; exact hk⟩
end
end K02
namespace K02
open PySem PySem.Spec PyProof.Rows L2 QL
def wallsW (ws : List (List Int)) : List (List Int) := sortI ((dedup ws).filter fun w => !((dedup ws).any fun o => decide (o ≠ w) && nw w o))
def suppN (c : List Int) : List Nat := (c.zipIdx.filter fun p => decide (0 < p.1)).map (·.2)
def num (w c : List Int) (i : Nat) : Int := if w.getD i 0 = 0 then c.getD i 0 else min (w.getD i 0) (c.getD i 0)
def narrow (w c : List Int) : List (List Int) := (suppN c).map fun i => w.take i ++ (num w c i :: w.drop (i + 1))
def F_walls_with : FS := fnS fun ds d => ∃ ws : List (List Int), ds = [.lst (ws.map tupI)] ∧ ws.length ≤ 1000 ∧ (∀ x ∈ ws, x ≠ [] ∧ x.length ≤ 1000) ∧ d = bodyD (wallsW ws)
def F_narrowed : FS := fnS fun ds d => ∃ w c : List Int, ds = [tupI w, tupI c] ∧ w.length = c.length ∧ c.length ≤ 1000 ∧ d = .lst ((narrow w c).map tupI)
def F_walls_by : FS := fnS fun ds d => ∃ (m : Int) (a : List Int), ds = [.int m, bodyD [a]] ∧ 1 ≤ m ∧ m ≤ 5 ∧ isCell m a = true ∧ d = bodyD (wallsW (narrow (List.replicate m.toNat 0) a))
def F_walls_of : FS := fnS fun ds d => ∃ (m : Int) (a : List Int), ds = [.int m, bodyD [a]] ∧ 1 ≤ m ∧ m ≤ 5 ∧ isCell m a = true ∧ d = bodyD (wallsW (narrow (List.replicate m.toNat 0) a))
theorem suppN_lt {c : List Int} {i : Nat} (h : i ∈ suppN c) : i < c.length ∧ 0 < c.getD i 0 := by
  unfold suppN at h
  obtain ⟨p, hp, rfl⟩ := List.mem_map.mp h
  obtain ⟨h1, h2⟩ := List.mem_filter.mp hp
  have h3 := List.mem_zipIdx_iff_getElem?.mp h1
  refine ⟨(List.getElem?_eq_some_iff.mp h3).1, ?_⟩
  rw [List.getD_eq_getElem?_getD, h3]
  simpa using h2
theorem suppN_len (c : List Int) : (suppN c).length ≤ c.length := by
  unfold suppN
  rw [List.length_map]
  exact Nat.le_trans (List.length_filter_le _ _) (by simp)
theorem map_snoc {α β : Type} (f : α → β) (l : List α) (x : α) : (l ++ [x]).map f = l.map f ++ [f x] := by rw [List.map_append]; rfl
theorem supp_eq (c : List Int) : supp c = (suppN c).map fun i : Nat => (i : Int) := by
  unfold supp suppN
  rw [List.map_map]; rfl
theorem cut_take {α : Type} (xs : List α) (i : Nat) (h : i ≤ xs.length) : QL.cutD xs none (some (i : Int)) = xs.take i := by
  unfold QL.cutD
  rw [HT.sIx_nat, HT.sIx_none]
  simp only [List.drop_zero, Nat.sub_zero]
  rw [Nat.min_eq_left h]
theorem cut_drop {α : Type} (xs : List α) (i : Nat) : QL.cutD xs (some (i : Int)) none = xs.drop i := by
  unfold QL.cutD
  rw [HT.sIx_nat, HT.sIx_none]
  by_cases h : i ≤ xs.length
  · rw [Nat.min_eq_left h, List.take_of_length_le (by rw [List.length_drop]; omega)]
  · rw [Nat.min_eq_right (by omega), List.drop_of_length_le (Nat.le_refl _), List.drop_of_length_le (by omega)]; simp
theorem ix_tup {ns : List Int} {i : Nat} (h : i < ns.length) : atI (ns.map D.int) (i : Int) = some (.int (ns.getD i 0)) := by
  refine QL.atI_nat ?_
  rw [List.getElem?_map, List.getD_eq_getElem?_getD, List.getElem?_eq_getElem h]
  rfl
section
variable {P : Program} {w : World} {K : PySem.W.Frag} {mg : Str → Option Value} {base : Heap}
theorem d_is_no_wider (bi : ∀ x ∈ biNames, mg x = none) (d : DefIn K mg "is_no_wider" s_is_no_wider) : DefQ P w K mg base "is_no_wider" s_is_no_wider ["wall", "other"] 1 F_is_no_wider := by
  refine defQ (cc := k_is_no_wider) (code := c_is_no_wider) (l := []) d f_is_no_wider m_is_no_wider bi (fun p h => nomatch h) .nil fun ds st kk hl ⟨d, ⟨a, b, e, hz, ed⟩, hk⟩ => ?_
  subst e ed
  refine ⟨_, _, _, _, rfl, .inl rfl, .inl rfl, ?_⟩
  rw [zipD_map]
  refine wMap_map _ _ (fun p => .bl (decide (p.2 = 0) || (decide (0 < p.1) && decide (p.1 ≤ p.2)))) _ _ _ (fun p _ st K h => ?_) ?_
  · refine ⟨_, rfl, rfl, _, _, rfl, _, _, rfl, rfl, rfl, rfl, _, rfl, ?_⟩
    have e : eqD (.int p.2) (Cn.int 0).d = decide (p.2 = 0) := rfl
    rw [e]
    cases q : decide (p.2 = 0) with
    | true => rw [q] at h; exact iteT h
    | false =>
      rw [q] at h
      refine iteF ⟨_, rfl, ?_⟩
      cases q2 : decide (0 < p.1) with
      | true => rw [q2] at h; exact iteT h
      | false => rw [q2] at h; exact iteF h
  · rw [bls_map]
    refine ⟨_, rfl, ?_⟩
    have e : ((a.zip b).map fun p => decide (p.2 = 0) || (decide (0 < p.1) && decide (p.1 ≤ p.2))).all id = nw a b := by unfold nw; rw [List.all_map]; rfl
    rw [e]
    exact hk
theorem d_does_bar (bi : ∀ x ∈ biNames, mg x = none) (d : DefIn K mg "does_bar" s_does_bar) : DefQ P w K mg base "does_bar" s_does_bar ["wall", "cell"] 1 F_does_bar := by
  refine defQ (cc := k_does_bar) (code := c_does_bar) (l := []) d f_does_bar m_does_bar bi (fun p h => nomatch h) .nil fun ds st kk hl ⟨d, ⟨a, b, e, hz, ed⟩, hk⟩ => ?_
  subst e ed
  refine ⟨_, _, _, _, rfl, .inl rfl, .inl rfl, ?_⟩
  rw [zipD_map]
  refine wMap_map _ _ (fun p => .bl (decide (p.1 = 0) || decide (p.2 < p.1))) _ _ _ (fun p _ st K h => ?_) ?_
  · refine ⟨_, rfl, rfl, _, _, rfl, _, _, rfl, rfl, rfl, rfl, _, rfl, ?_⟩
    have e : eqD (.int p.1) (Cn.int 0).d = decide (p.1 = 0) := rfl
    rw [e]
    cases q : decide (p.1 = 0) with
    | true => rw [q] at h; exact iteT h
    | false => rw [q] at h; exact iteF h
  · rw [bls_map]
    refine ⟨_, rfl, ?_⟩
    have e : ((a.zip b).map fun p => decide (p.1 = 0) || decide (p.2 < p.1)).all id = db a b := by unfold db; rw [List.all_map]; rfl
    rw [e]
    exact hk
theorem d_is_clear_of (bi : ∀ x ∈ biNames, mg x = none) (d : DefIn K mg "is_clear_of" s_is_clear_of) (c1 : CalQ P w K mg base 1 "does_bar" [] 2 (F_does_bar.pick [0, 1])) : DefQ P w K mg base "is_clear_of" s_is_clear_of ["wall", "corner"] 2 F_is_clear_of := by
  refine defQ (cc := k_is_clear_of) (code := c_is_clear_of) (l := [F_does_bar.pick [0, 1]]) d f_is_clear_of m_is_clear_of bi (fun p h => nomatch h) (.cons c1 (by decide) .nil) fun ds st kk hl ⟨d, ⟨a, b, e, hz, ed⟩, hk⟩ => ?_
  subst e ed
  exact ⟨rfl, rfl, _, ⟨a, b, rfl, hz, rfl⟩, _, rfl, hk⟩
theorem d_walls_with (bi : ∀ x ∈ biNames, mg x = none) (d : DefIn K mg "walls_with" s_walls_with) (c1 : CalQ P w K mg base 1 "is_no_wider" [] 2 (F_is_no_wider.pick [0, 1])) : DefQ P w K mg base "walls_with" s_walls_with ["walls"] 2 F_walls_with := by
  refine defQ (cc := k_walls_with) (code := c_walls_with) (l := [F_is_no_wider.pick [0, 1]]) d f_walls_with m_walls_with bi (fun p h => nomatch h) (.cons c1 (by decide) .nil) fun ds st kk hl ⟨d, ⟨ws, e, hz, hc, ed⟩, hk⟩ => ?_
  subst e ed
  refine ⟨_, .inr rfl, ?_⟩
  refine wMap_map _ tupI tupI _ _ _ (fun c _ st K h => ⟨c, rfl, h⟩) ⟨ws, rfl, ?_⟩
  have hin : ∀ g ∈ dedup ws, g ≠ [] ∧ g.length ≤ 1000 := fun g hg => hc g (mem_dedup hg)
  refine ⟨_, .inr rfl, ?_⟩
  refine wMap_fm (.nm 2) tupI tupI (fun x => !((dedup ws).any fun o => decide (o ≠ x) && nw x o)) _ _ _ (fun x hx st K Z h1 h2 => ?_) ?_
  · refine ⟨_, .inr rfl, ?_⟩
    refine wMap_fm (.nm 3) tupI (fun o => .bl (nw x o)) (fun o => decide (o ≠ x)) _ _ _ (fun o ho st K Z h1 h2 => ?_) ?_
    · exact ⟨okC_tupI _, okC_tupI _, tst (by rw [eqD_tupI]; simp) (fun e => ⟨rfl, rfl, _, ⟨x, o, rfl, (hin x hx).2, rfl⟩, h1 e⟩) h2⟩
    · rw [bls_map]
      refine ⟨_, rfl, _, rfl, tst ?_ h1 h2⟩
      rw [List.any_map, List.any_filter]
      rfl
  · refine ⟨_, rfl, sortOk_tupI fun g hg => (hin g (List.mem_filter.mp hg).1).1, ?_⟩
    refine ⟨_, .inl rfl, ?_⟩
    rw [sortD_tupI]
    exact hk
theorem d_narrowed (bi : ∀ x ∈ biNames, mg x = none) (d : DefIn K mg "narrowed" s_narrowed) (c1 : CalQ P w K mg base 1 "support_of" [] 1 (F_support_of.pick [0])) : DefQ P w K mg base "narrowed" s_narrowed ["wall", "corner"] 2 F_narrowed := by
  refine defQ (cc := k_narrowed) (code := c_narrowed) (l := [F_support_of.pick [0]]) d f_narrowed m_narrowed bi (fun p h => nomatch h) (.cons c1 (by decide) .nil) fun ds st kk hl ⟨d, ⟨v, c, e, hl2, hz, ed⟩, hk⟩ => ?_
  subst e ed
  have z : (sizeLine : Nat) = 16777216 := by decide
  refine ⟨by simp, [], rfl, ?_⟩
  refine ⟨rfl, rfl, _, ⟨c, rfl, hz, rfl⟩, _, .inl rfl, ?_⟩
  rw [supp_eq, List.map_map]
  refine wFor_ind (.nm 3) _ _ (fun i : Nat => D.int (i : Int)) (fun done rest ρ st' => st' = st ∧ done ++ rest = suppN c ∧ ∃ y u, ρ = [some (tupI v), some (tupI c), some (.lst ((done.map fun i => v.take i ++ (num v c i :: v.drop (i + 1))).map tupI)), y, u]) [] _ _ _ ⟨rfl, rfl, none, none, rfl⟩
    (fun done i rest ρ st' ⟨e1, e2, y, u, e3⟩ => ?_) (fun done ρ st' ⟨e1, e2, y, u, e3⟩ => ?_)
  · subst e1 e3
    intro E' hn _ _ _
    have hi : i ∈ suppN c := by rw [← e2]; simp
    obtain ⟨hi1, hi2⟩ := suppN_lt hi
    have dl : (done ++ i :: rest).length ≤ c.length := by rw [e2]; exact suppN_len c
    rw [List.length_append, List.length_cons] at dl
    have a1 := ix_tup (ns := v) (i := i) (by omega)
    have a2 := ix_tup (ns := c) (i := i) hi1
    refine ⟨_, a1, rfl, rfl, decide (v.getD i 0 = 0), rfl, ?_⟩
    have go : wS (gam [F_support_of.pick [0]]) (.app 2 (.tup (.star (.sl (.v 0) .nil (.v 3)) (.cons (.v 4) (.star (.sl (.v 0) (.bin .Add (.v 3) (.c (.int 1))) .nil) .nil)))) .nil) E'
        [some (tupI v), some (tupI c), some (.lst ((done.map fun i => v.take i ++ (num v c i :: v.drop (i + 1))).map tupI)), some (.int (i : Int)), some (.int (num v c i))] st' := by
      refine ⟨_, rfl, ?_⟩
      refine ⟨_, rfl, _, .inl rfl, _, rfl, _, .inl rfl, ?_⟩
      have e4 : ((i : Int) + 1) = ((i + 1 : Nat) : Int) := by omega
      rw [e4, cut_map, cut_map, cut_take _ _ (by omega), cut_drop]
      have e5 : (v.take i).map D.int ++ (D.int (num v c i) :: ((v.drop (i + 1)).map D.int ++ [])) = (v.take i ++ (num v c i :: v.drop (i + 1))).map D.int := by
        rw [List.append_nil, List.map_append, List.map_cons]
      show List.length _ ≤ sizeLine ∧ List.length _ < sizeLine ∧ wS _ _ _ (List.set _ _ (some (D.lst (_ ++ [D.tup ((v.take i).map D.int ++ (D.int (num v c i) :: ((v.drop (i + 1)).map D.int ++ [])))])))) _
      rw [e5]
      refine ⟨?_, ?_, hn _ _ ⟨rfl, by rw [← e2, List.append_assoc]; rfl, some (.int (i : Int)), some (.int (num v c i)), ?_⟩⟩
      · rw [List.length_map, List.length_append, List.length_cons, List.length_take, List.length_drop]; omega
      · rw [List.length_map, List.length_map]; omega
      · rw [map_snoc, map_snoc]
        rfl
    by_cases q : v.getD i 0 = 0
    · rw [decide_eq_true q]
      have e6 : num v c i = c.getD i 0 := by unfold num; rw [if_pos q]
      rw [e6] at go
      exact iteT ⟨_, a2, go⟩
    · rw [decide_eq_false q]
      have e6 : num v c i = min (v.getD i 0) (c.getD i 0) := by unfold num; rw [if_neg q]
      rw [e6] at go
      exact iteF ⟨_, a1, _, a2, _, _, rfl, go⟩
  · subst e1 e3
    rw [List.append_nil] at e2
    rw [e2]
    exact hk
theorem d_walls_by (bi : ∀ x ∈ biNames, mg x = none) (d : DefIn K mg "walls_by" s_walls_by) (c1 : CalQ P w K mg base 1 "noughts" [] 1 (F_noughts.pick [0])) (c2 : CalQ P w K mg base 2 "is_clear_of" [] 2 (F_is_clear_of.pick [0, 1])) (c3 : CalQ P w K mg base 2 "narrowed" [] 2 (F_narrowed.pick [0, 1])) (c4 : CalQ P w K mg base 2 "walls_with" [] 1 (F_walls_with.pick [0])) :
    DefQ P w K mg base "walls_by" s_walls_by ["many", "body"] 3 F_walls_by := by
  refine defQ (cc := k_walls_by) (code := c_walls_by) (l := [F_noughts.pick [0], F_is_clear_of.pick [0, 1], F_narrowed.pick [0, 1], F_walls_with.pick [0]]) d f_walls_by m_walls_by bi (fun p h => nomatch h) (.cons c1 (by decide) (.cons c2 (by decide) (.cons c3 (by decide) (.cons c4 (by decide) .nil)))) fun ds st kk hl ⟨d, ⟨m, a, e, h1, h2, h3, ed⟩, hk⟩ => ?_
  subst e ed
  have l1 := len_of h3
  have z : (sizeLine : Nat) = 16777216 := by decide
  generalize hZ : List.replicate m.toNat (0 : Int) = Z at hk
  have lz : Z.length = a.length := by rw [← hZ, List.length_replicate]; omega
  have bar : db Z a = true := by
    unfold db
    rw [List.all_eq_true]
    intro p hp
    have : p.1 ∈ Z := (List.of_mem_zip hp).1
    rw [← hZ] at this
    have := (List.mem_replicate.mp this).2
    simp [this]
  refine ⟨rfl, rfl, _, ⟨m, rfl, by omega, by omega, rfl⟩, by first | decide | exact (show (1 : Nat) ≤ _ from by decide), ?_⟩
  rw [hZ]
  refine ⟨_, .inl rfl, ?_⟩
  -- clear, fresh
  refine ⟨_, .inl rfl, ?_⟩
  refine wMap_fm (.nm 6) tupI tupI (fun _ => false) [Z] _ _ (fun x hx st K Zc h4 h5 => ?_) ?_
  · simp at hx
    subst hx
    refine ⟨rfl, rfl, _, ⟨x, a, rfl, by omega, rfl⟩, _, rfl, ?_⟩
    rw [bar]; exact iteF (h5 rfl)
  refine ⟨_, .inl rfl, 1000, by show 1 * 1000 ≤ sizeLine; decide, ?_⟩
  refine wMap2_map _ (.nm 6) (.nm 7) tupI (fun x => (narrow x a).map tupI) [Z] _ _ (fun x hx st K hK => ?_) ?_
  · simp at hx
    subst hx
    refine ⟨rfl, rfl, _, ⟨x, a, rfl, by omega, rfl⟩, _, rfl, ?_⟩
    rw [bar]; refine ⟨true, rfl, iteT ?_⟩
    refine ⟨rfl, rfl, _, ⟨x, a, rfl, lz, by omega, rfl⟩, _, .inr rfl, ?_, ?_⟩
    · rw [List.length_map]
      unfold narrow
      rw [List.length_map]
      have := suppN_len a
      omega
    · exact wMap_map (.nm 7) tupI tupI _ _ _ (fun y _ st K hK => hK) hK
  · have nl : (narrow Z a).length ≤ a.length := by unfold narrow; rw [List.length_map]; exact suppN_len a
    have e0 : ([Z].flatMap fun x => (narrow x a).map tupI) = (narrow Z a).map tupI := by simp
    rw [e0]
    refine ⟨?_, rfl, rfl, _, ⟨narrow Z a, rfl, by omega, fun x hx => ?_, rfl⟩, hk⟩
    · show 0 + ((narrow Z a).map tupI).length ≤ sizeLine
      rw [List.length_map]; omega
    · unfold narrow at hx
      obtain ⟨i, hi, rfl⟩ := List.mem_map.mp hx
      have := (suppN_lt hi).1
      refine ⟨fun q => ?_, ?_⟩
      · have := congrArg List.length q
        simp at this
      · rw [List.length_append, List.length_cons, List.length_take, List.length_drop]; omega
theorem d_walls_of (bi : ∀ x ∈ biNames, mg x = none) (d : DefIn K mg "walls_of" s_walls_of) (c1 : CalQ P w K mg base 6 "check_one" [] 2 (F_check_one.pick [0, 1])) (c2 : CalQ P w K mg base 1 "few" [] 1 (F_few.pick [0])) (c3 : CalQ P w K mg base 3 "walls_by" [] 2 (F_walls_by.pick [0, 1])) : DefQ P w K mg base "walls_of" s_walls_of ["many", "body"] 7 F_walls_of := by
  refine defQ (cc := k_walls_of) (code := c_walls_of) (l := [F_check_one.pick [0, 1], F_few.pick [0], F_walls_by.pick [0, 1]]) d f_walls_of m_walls_of bi (fun p h => nomatch h) (.cons c1 (by decide) (.cons c2 (by decide) (.cons c3 (by decide) .nil))) fun ds st kk hl ⟨d, ⟨m, a, e, h1, h2, h3, ed⟩, hk⟩ => ?_
  subst e ed
  have l1 := len_of h3
  refine ⟨rfl, rfl, .non, ⟨m, [a], rfl, h1, h2, by exact (show (1 : Nat) ≤ _ from by decide), isBody_one h3, rfl⟩, rfl, rfl, _, ⟨m, a, rfl, h1, h2, h3, rfl⟩, rfl, rfl, _, ⟨_, rfl, ?_, rfl⟩, hk⟩
  unfold wallsW sortI
  rw [List.length_map, List.length_mergeSort]
  refine Nat.le_trans (List.length_filter_le _ _) (Nat.le_trans (dedup_len _) ?_)
  unfold narrow
  rw [List.length_map]
  have := suppN_len a
  omega
end
end K02
namespace K02
open PySem PySem.Spec PyProof.Rows L2 QL
/-! ### the draws -/
def BrOk (st : DS) : Prop := ∃ a b c : Int, st = [.int a, .int b, .int c] ∧ (0 ≤ a ∧ a < 10 ^ 48) ∧ (0 ≤ b ∧ b < 4294967291) ∧ 0 ≤ c ∧ c < 2147483647
def F_drop : FS := ⟨fun ds st k => BrOk st ∧ ∃ m : Int, ds = [.brook, .int m] ∧ 0 < m ∧ m ≤ 1000 ∧ ∀ r st', 0 ≤ r → r < m → BrOk st' → k (.int r) st',
  fun _ _ _ _ f ⟨h1, m, h2, h3, h4, h5⟩ => ⟨h1, m, h2, h3, h4, fun r st' a b c => f _ _ (h5 r st' a b c)⟩, false⟩
def F_of : FS := ⟨fun ds st k => BrOk st ∧ ∃ xs : List Int, ds = [.brook, tupI xs] ∧ xs ≠ [] ∧ xs.length ≤ 1000 ∧ ∀ x st', x ∈ xs → BrOk st' → k (.int x) st',
  fun _ _ _ _ f ⟨h1, m, h2, h3, h4, h5⟩ => ⟨h1, m, h2, h3, h4, fun r st' a b => f _ _ (h5 r st' a b)⟩, false⟩
def CellB (m : Int) (a : List Int) : Prop := isCell m a = true ∧ ∀ x ∈ a, x < 10 ^ 60
def F_any : FS := ⟨fun ds st k => BrOk st ∧ ∃ m : Int, ds = [.brook, .int m] ∧ 0 < m ∧ m ≤ 1000 ∧ ∀ a st', CellB m a → BrOk st' → k (tupI a) st',
  fun _ _ _ _ f ⟨h1, m, h2, h3, h4, h5⟩ => ⟨h1, m, h2, h3, h4, fun r st' a b => f _ _ (h5 r st' a b)⟩, false⟩
def F_under : FS := fnS fun ds d => ∃ a b : List Int, ds = [tupI a, tupI b] ∧ d = .bl (nm a b)
def evD : Nat → D → Bool
  | 0, _ => false
  | n + 1, .tup xs => decide (xs.length ≤ 1000) && xs.all (evD n)
  | _ + 1, x => (reprLeaf x).isSome
def F_even (n : Nat) : FS := fnS fun ds d => ∃ x, ds = [x, x] ∧ evD n x = true ∧ d = .bl true
theorem strOk_of (s : String) : PyData.strOk (Str.ofString s) = true := by
  rw [Str.ofString_eq_toList]
  unfold PyData.strOk
  rw [Array.all_eq_true]
  intro i h
  simp only [List.getElem_toArray, List.getElem_map, decide_eq_true_eq]
  have := (s.toList[i]'(by simpa using h)).valid
  unfold Char.toNat
  unfold UInt32.isValidChar Nat.isValidChar at this
  omega
theorem okC_leaf {d : D} {s : Str} (h : reprLeaf d = some s) : okC (.str s) = true := by
  show PyData.strOk s = true
  cases d with
  | non => cases h; exact strOk_of _
  | bl b =>
    cases h
    cases b <;> exact strOk_of _
  | int i =>
    have h : (if i.natAbs.log2 < 1920 then some (Str.ofString (toString i)) else none) = some s := h
    split at h
    · cases h; exact strOk_of _
    · cases h
  | _ => cases h
theorem BrOk.isI {st : DS} (h : BrOk st) : st.all QL.isI = true := by
  obtain ⟨a, b, c, rfl, _⟩ := h
  rfl
theorem bits_le {i : Int} {n : Nat} (h : i.natAbs < 2 ^ n) : Builtin.Int.intBits i ≤ n := by
  exact PyProof.Rows.intBits_le h
theorem cmul {i j : Int} (hi : i.natAbs < 2 ^ 200) (hj : j.natAbs < 2 ^ 200) : CMulW i j := wide_mul hi hj (by decide) (by decide) (by decide)
section
variable {P : Program} {w : World} {K : PySem.W.Frag} {mg : Str → Option Value} {base : Heap}
theorem d_law_drop (bi : ∀ x ∈ biNames, mg x = none) (d : DefIn K mg "_law_drop" s_law_drop) : DefQ P w K mg base "_law_drop" s_law_drop ["brook", "many"] 1 F_drop := by
  refine defQ (cc := k_law_drop) (code := c_law_drop) (l := []) d f_law_drop m_law_drop bi (fun p h => nomatch h) .nil fun ds st kk hl ⟨⟨a, b, c, e0, ha, hb, hc⟩, m, e, h1, h2, hk⟩ => ?_
  subst e e0
  have p200 : (2 : Nat) ^ 200 = 1606938044258990275541962092341162602522202993782792835301376 := by decide
  have p48 : (10 : Int) ^ 48 = 1000000000000000000000000000000000000000000000000 := by decide
  rw [p48] at ha
  refine ⟨rfl, _, rfl, decide (0 < a), rfl, ?_⟩
  by_cases q : 0 < a
  · rw [decide_eq_true q]
    refine iteT ?_
    refine ⟨rfl, _, rfl, a, m, rfl, ?_, ?_⟩
    · refine divp_ok h1 ?_
      have := bits_le (i := a) (n := 200) (by rw [p200]; omega)
      omega
    · have h5 : a / m ≤ a := Int.ediv_le_self _ ha.1
      have h6 : 0 ≤ a / m := Int.ediv_nonneg ha.1 (by omega)
      refine ⟨_, _, rfl, rfl, by exact (show (0 : Nat) < 3 from by decide), rfl, ?_⟩
      exact hk _ _ (Int.emod_nonneg _ (by omega)) (Int.emod_lt_of_pos _ h1) ⟨_, _, _, rfl, by rw [p48]; omega, hb, hc⟩
  · rw [decide_eq_false q]
    refine iteF ?_
    refine ⟨rfl, _, rfl, cmul (by rw [p200]; omega) (by rw [p200]; omega), .inl ⟨_, rfl, by decide, rfl, by exact (show (1 : Nat) < 3 from by decide), rfl, ?_⟩⟩
    refine ⟨rfl, _, rfl, cmul (by rw [p200]; omega) (by rw [p200]; omega), .inl ⟨_, rfl, by decide, rfl, by exact (show (2 : Nat) < 3 from by decide), rfl, ?_⟩⟩
    have b1 : 0 ≤ (b * 279470273 + 12345) % 4294967291 := Int.emod_nonneg _ (by decide)
    have b2 : (b * 279470273 + 12345) % 4294967291 < 4294967291 := Int.emod_lt_of_pos _ (by decide)
    have c1 : 0 ≤ (c * 48271 + 1) % 2147483647 := Int.emod_nonneg _ (by decide)
    have c2 : (c * 48271 + 1) % 2147483647 < 2147483647 := Int.emod_lt_of_pos _ (by decide)
    generalize (b * 279470273 + 12345) % 4294967291 = b' at *
    generalize (c * 48271 + 1) % 2147483647 = c' at *
    refine ⟨rfl, _, rfl, ⟨by decide, by decide⟩, cmul (by rw [p200]; omega) (by rw [p200]; omega), rfl, _, rfl, ⟨by decide, by decide⟩, .inl ⟨_, rfl, h1, ?_⟩⟩
    exact hk _ _ (Int.emod_nonneg _ (by omega)) (Int.emod_lt_of_pos _ h1) ⟨_, _, _, rfl, by rw [p48]; omega, ⟨b1, b2⟩, c1, c2⟩
theorem d_law_of (bi : ∀ x ∈ biNames, mg x = none) (d : DefIn K mg "_law_of" s_law_of) (c1 : CalQ P w K mg base 1 "_law_drop" [] 2 (F_drop.pick [0, 1])) : DefQ P w K mg base "_law_of" s_law_of ["brook", "some"] 2 F_of := by
  refine defQ (cc := k_law_of) (code := c_law_of) (l := [F_drop.pick [0, 1]]) d f_law_of m_law_of bi (fun p h => nomatch h) (.cons c1 (by decide) .nil) fun ds st kk hl ⟨h0, xs, e, h1, h2, hk⟩ => ?_
  subst e
  have hl : 0 < xs.length := List.length_pos_iff.mpr h1
  refine ⟨_, rfl, xs.length, .inr (.inl ⟨_, rfl, by rw [List.length_map]⟩), rfl, rfl, h0, xs.length, rfl, by omega, by omega, fun r st' h3 h4 h5 => ?_⟩
  obtain ⟨i, rfl⟩ := Int.eq_ofNat_of_zero_le h3
  have hi : i < xs.length := by omega
  refine ⟨_, ix_tup hi, hk _ _ ?_ h5⟩
  rw [List.getD_eq_getElem?_getD, List.getElem?_eq_getElem hi]
  exact List.getElem_mem hi
theorem wMap_draw {α : Type} {we : W} {ρ : En} (t : T) (inj : α → D) (ok : Int → Prop) : ∀ (xs : List α) (st : DS) (k : DS → DS → Prop), BrOk st → (∀ x ∈ xs, ∀ st (K : Post), BrOk st → (∀ n st', ok n → BrOk st' → K (.int n) st') → t.sem.t (inj x) ρ fun ρ1 => we ρ1 st K) →
    (∀ (ns : List Int) st', ns.length = xs.length → (∀ n ∈ ns, ok n) → BrOk st' → k (ns.map .int) st') → wMap t.sem.t (wC (.bl true)) we ρ (xs.map inj) st k
  | [], st, k, b, _, h => h [] st rfl (by simp) b
  | x :: xs, st, k, b, f, h => by
    refine t.mono.1 _ _ _ _ (fun ρ1 q => ⟨true, rfl, iteT q⟩) (f x (by simp) st (fun y st2 => wMap t.sem.t (wC (.bl true)) we ρ (xs.map inj) st2 fun ys st3 => k (y :: ys) st3) b fun n st' hn hb => ?_)
    exact wMap_draw t inj ok xs st' _ hb (fun z hz => f z (by simp [hz])) fun ns st'' h1 h2 h3 => h (n :: ns) st'' (by simp [h1]) (fun y hy => by
      rcases List.mem_cons.mp hy with rfl | hy
      · exact hn
      · exact h2 y hy) h3
theorem d_law_any (bi : ∀ x ∈ biNames, mg x = none) (d : DefIn K mg "_law_any" s_law_any) (c1 : CalQ P w K mg base 2 "_law_of" [] 2 (F_of.pick [0, 1])) (c2 : CalQ P w K mg base 1 "_law_drop" [] 2 (F_drop.pick [0, 1])) : DefQ P w K mg base "_law_any" s_law_any ["brook", "many"] 3 F_any := by
  refine defQ (cc := k_law_any) (code := c_law_any) (l := [F_of.pick [0, 1], F_drop.pick [0, 1]]) d f_law_any m_law_any bi (fun p h => nomatch h) (.cons c1 (by decide) (.cons c2 (by decide) .nil)) fun ds st kk hl ⟨h0, m, e, h1, h2, hk⟩ => ?_
  subst e
  have z : (sizeLine : Nat) = 16777216 := by decide
  have z' : (sizeLine : Int) = 16777216 := by rw [z]; rfl
  have p59 : (10 : Int) ^ 59 = 100000000000000000000000000000000000000000000000000000000000 := by decide
  have p60 : (10 : Int) ^ 60 = 1000000000000000000000000000000000000000000000000000000000000 := by decide
  refine ⟨m, rfl, by omega, by omega, ?_⟩
  rw [rgD0]
  refine wMap_draw (.nm 2) _ (fun n => 0 ≤ n ∧ n < 10 ^ 60) _ _ _ h0 (fun i _ st K hb hK => ?_) fun ns st' h3 h4 h5 => ?_
  · refine ⟨rfl, rfl, hb, 5, rfl, by decide, by decide, fun r1 st1 q1 q2 b1 => ?_⟩
    refine ⟨⟨by decide, by decide, by decide⟩, rfl, rfl, b1, 3, rfl, by decide, by decide, fun r2 st2 q3 q4 b2 => ?_⟩
    refine ⟨by exact (show (5 : Nat) ≤ _ from by rw [z]; decide), rfl, rfl, b2, [0, 1, r1, 9999, 10 ^ 59 + r2], rfl, by simp, by exact (show (5 : Nat) ≤ _ from by decide), fun x st' hx b3 => hK x st' ?_ b3⟩
    rw [p60]
    rw [p59] at hx
    simp only [List.mem_cons, List.not_mem_nil, or_false] at hx
    omega
  · refine ⟨_, .inl rfl, hk ns st' ⟨?_, fun x hx => (h4 x hx).2⟩ h5⟩
    unfold isCell
    rw [List.length_range] at h3
    simp only [Bool.and_eq_true, decide_eq_true_eq, List.all_eq_true]
    exact ⟨by omega, fun x hx => (h4 x hx).1⟩
theorem eqD_ones {α : Type} (l : List α) : eqD (.lst (l.map fun _ => D.int 1)) (.lst []) = l.isEmpty := by
  cases l <;> rfl
theorem okC_ones {α : Type} (l : List α) : okC (.lst (l.map fun _ => D.int 1)) = true := by
  unfold okC
  show (l.map fun _ => D.int 1).all (okD 59) = true
  rw [List.all_map, List.all_eq_true]
  exact fun _ _ => rfl
theorem d_law_under (bi : ∀ x ∈ biNames, mg x = none) (d : DefIn K mg "_law_under" s_law_under) : DefQ P w K mg base "_law_under" s_law_under ["one", "two"] 1 F_under := by
  refine defQ (cc := k_law_under) (code := c_law_under) (l := []) d f_law_under m_law_under bi (fun p h => nomatch h) .nil fun ds st kk hl ⟨d, ⟨a, b, e, ed⟩, hk⟩ => ?_
  subst e ed
  refine ⟨_, _, _, _, rfl, .inl rfl, .inl rfl, ?_⟩
  rw [zipD_map]
  refine wMap_fm _ _ (fun _ => .int 1) (fun p => decide (p.2 < p.1)) _ _ _ (fun p _ st K Z h1 h2 => ?_) ?_
  · exact ⟨_, rfl, rfl, _, _, rfl, _, _, rfl, rfl, tst rfl h1 h2⟩
  · refine ⟨Nat.zero_le _, okC_ones _, rfl, ?_⟩
    rw [eqD_ones]
    have e : ((a.zip b).filter fun p => decide (p.2 < p.1)).isEmpty = nm a b := by
      unfold nm
      rw [Bool.eq_iff_iff, List.isEmpty_iff, List.filter_eq_nil_iff, List.all_eq_true]
      refine ⟨fun h p hp => ?_, fun h p hp => ?_⟩
      · have := h p hp; simp at this ⊢; omega
      · have := h p hp; simp at this ⊢; omega
    rw [e]
    exact hk
theorem defQ0 {x : Str} {sm : Stmt} {ps : List Str} {F : FS} (d : DefIn K mg x sm) (h : ∀ ds st k, ¬ F.w ds st k) : DefQ P w K mg base x sm ps 0 F := by
  obtain ⟨f, fd, Fn, hm⟩ := d
  exact ⟨f, fd, Fn, hm, ⟨fun vs H Q E q => q.1, fun A outer s H args us vs Q E _ _ _ _ q => by
    obtain ⟨_, c, _, _, _, ds, st, _, _, _, z⟩ := q
    exact absurd z (h _ _ _)⟩⟩
theorem zipD_self : ∀ xs : DS, zipD xs xs = xs.map fun x => .tup [x, x]
  | [] => rfl
  | x :: xs => by
    show D.tup [x, x] :: zipD xs xs = _
    rw [zipD_self xs]
    rfl
theorem d_law_even (bi : ∀ x ∈ biNames, mg x = none) (d : DefIn K mg "_law_even" s_law_even) : ∀ n, DefQ P w K mg base "_law_even" s_law_even ["told", "due"] n (F_even n)
  | 0 => defQ0 d fun ds st k ⟨d, ⟨x, _, h, _⟩, _⟩ => by simp [evD] at h
  | n + 1 => by
    have c1 : CalQ P w K mg base n "_law_even" [] 2 ((F_even n).pick [0, 1]) := callQ (d_law_even bi d n) [0, 1] fun _ _ _ _ _ _ us ws h1 h2 => match us, ws, h1, h2 with | [_, _], [], _, _ => rfl
    refine defQ (cc := k_law_even) (code := c_law_even) (l := [(F_even n).pick [0, 1]]) d f_law_even m_law_even bi (fun p h => nomatch h) (.cons c1 (Nat.le_refl _) .nil) fun ds st kk hl ⟨d, ⟨x, e, h, ed⟩, hk⟩ => ?_
    subst e ed
    by_cases q : ∃ xs, x = .tup xs
    · obtain ⟨xs, rfl⟩ := q
      simp only [evD, Bool.and_eq_true, decide_eq_true_eq] at h
      refine ⟨_, _, rfl, rfl, rfl, true, rfl, iteT ?_⟩
      refine ⟨_, _, rfl, rfl, rfl, true, rfl, iteT ?_⟩
      refine ⟨_, rfl, xs.length, .inr (.inl ⟨_, rfl, rfl⟩), _, rfl, xs.length, .inr (.inl ⟨_, rfl, rfl⟩), rfl, rfl, true, ?_, iteT ?_⟩
      · congr 1
        show decide _ = true
        simp
      · refine ⟨_, _, _, _, rfl, .inl rfl, .inl rfl, ?_⟩
        rw [zipD_self]
        refine wMap_fm (.tp (.tc (.nm 2) (.tc (.nm 3) .tn))) _ (fun _ => .int 1) (fun _ => false) _ _ _ (fun p hp st K Z h1 h2 => ?_) ?_
        · exact ⟨_, rfl, rfl, _, _, rfl, _, _, rfl, rfl, rfl, rfl, _, ⟨p, rfl, List.all_eq_true.mp h.2 p hp, rfl⟩, _, rfl, false, rfl, iteF (h2 rfl)⟩
        · exact ⟨Nat.zero_le _, okC_ones _, rfl, by rw [eqD_ones, List.filter_eq_nil_iff.mpr (fun _ _ z => Bool.false_ne_true z)]; exact hk⟩
    · have h' : ∃ s, reprLeaf x = some s := by
        cases x <;> first | exact absurd ⟨_, rfl⟩ q | exact Option.isSome_iff_exists.mp h
      obtain ⟨s, hs⟩ := h'
      have t1 : plainD x = true := by
        cases x <;> first | rfl | cases hs
      have t2 : isiD x "tuple" = false := by
        cases x <;> first | rfl | cases hs
      refine ⟨_, _, rfl, rfl, t1, _, rfl, ?_⟩
      rw [t2]
      refine iteF ⟨_, _, rfl, rfl, t1, _, rfl, ?_⟩
      rw [t2]
      refine ⟨true, rfl, iteT ?_⟩
      refine ⟨_, s, rfl, hs, _, s, rfl, hs, okC_leaf hs, okC_leaf hs, ?_⟩
      have e : eqD (.str s) (.str s) = true := by
        show (s == s) = true
        simp
      rw [e]
      exact hk
end
end K02
namespace K02
open PySem PySem.Spec PyProof.Rows L2 QL
def F_brook : FS := ⟨fun ds st k => ∃ (ns : List Int) (lap : Nat), ds = [.scr ns, .int lap] ∧ lap ≤ 1000 ∧ ∀ d, BrOk d → k (.lst d) st, fun _ _ _ _ f ⟨ns, lap, h1, h2, h3⟩ => ⟨ns, lap, h1, h2, fun d b => f _ _ (h3 d b)⟩, true⟩
section
variable {P : Program} {w : World} {K : PySem.W.Frag} {mg : Str → Option Value} {base : Heap}
theorem d_law_brook (bi : ∀ x ∈ biNames, mg x = none) (d : DefIn K mg "_law_brook" s_law_brook) : DefQ P w K mg base "_law_brook" s_law_brook ["script", "lap"] 1 F_brook := by
  refine defQ (cc := k_law_brook) (code := c_law_brook) (l := []) d f_law_brook m_law_brook bi (fun p h => nomatch h) .nil fun ds st kk hl ⟨ns, lap, e, hlap, hk⟩ => ?_
  subst e
  have p200 : (2 : Nat) ^ 200 = 1606938044258990275541962092341162602522202993782792835301376 := by decide
  have p48 : (10 : Int) ^ 48 = 1000000000000000000000000000000000000000000000000 := by decide
  have go : ∀ own : Int, wS (gam []) (match c_law_brook with | .set _ _ r => r | c => c) { nx := fun _ st' => kk .non st', rt := kk } ((startD k_law_brook.N [.scr ns, .int lap]).set 2 (some (.int own))) st := by
    intro own
    refine ⟨cmul (by rw [p200]; omega) (by rw [p200]; omega), ?_⟩
    refine ⟨_, rfl, _, .inr rfl, ?_⟩
    refine wFor_ind (.nm 5) _ _ D.int (fun _ _ ρ st' => st' = st ∧ ∃ (one two : Int) (y : Option D), ρ = [some (.scr ns), some (.int lap), some (.int own), some (.int one), some (.int two), y] ∧ (0 ≤ one ∧ one < 5000000000) ∧ 0 ≤ two ∧ two < 2147483647) [] _ _ _ ⟨rfl, _, _, none, rfl, by omega, by omega⟩
      (fun done x rest ρ st' ⟨e1, one, two, y, e3, h1, h2⟩ => ?_) (fun done ρ st' ⟨e1, one, two, y, e3, h1, h2⟩ => ?_)
    · subst e1 e3
      intro E' hn _ _ _
      refine ⟨cmul (by rw [p200]; omega) (by rw [p200]; omega), .inl ⟨_, rfl, by decide, .inl ⟨_, rfl, by decide, ?_⟩⟩⟩
      have a1 : 0 ≤ (one * 69069 + x % 4294967291 + two) % 4294967291 := Int.emod_nonneg _ (by decide)
      have a2 : (one * 69069 + x % 4294967291 + two) % 4294967291 < 4294967291 := Int.emod_lt_of_pos _ (by decide)
      refine ⟨cmul (by rw [p200]; omega) (by rw [p200]; omega), .inl ⟨_, rfl, by decide, ?_⟩⟩
      exact hn _ _ ⟨rfl, _, _, _, rfl, ⟨a1, by omega⟩, Int.emod_nonneg _ (by decide), Int.emod_lt_of_pos _ (by decide)⟩
    · subst e1 e3
      have fin : ∀ o : Int, 0 ≤ o → o < 10 ^ 48 → (sem (gam []) (.lst (.cons (.c (.int o)) (.cons (.bin .Mod (.bi .int (.cons (.bin .Add (.v 3) (.bin .Mod (.v 2) (.c (.int 4294967291)))) .nil)) (.c (.int 4294967291))) (.cons (.v 4) .nil))))).e [some (.scr ns), some (.int lap), some (.int own), some (.int one), some (.int two), y] st' kk := by
        intro o h3 h4
        refine ⟨by decide, .inl ⟨_, rfl, by decide, ?_⟩⟩
        exact ⟨by exact (show (3 : Nat) ≤ sizeLine from by decide), hk _ ⟨o, _, two, rfl, ⟨h3, h4⟩, ⟨Int.emod_nonneg _ (by decide), Int.emod_lt_of_pos _ (by decide)⟩, h2⟩⟩
      by_cases q : own < 0 ∨ (10 : Int) ^ 18 ≤ own
      · have h5 : 0 ≤ (if own < 0 then -own else own) % 10 ^ 48 := Int.emod_nonneg _ (by decide)
        have h6 : (if own < 0 then -own else own) % 10 ^ 48 < 10 ^ 48 := Int.emod_lt_of_pos _ (by decide)
        have f := fin _ h5 h6
        by_cases q1 : own < 0
        · refine ⟨decide (own < 0), rfl, ?_⟩
          rw [decide_eq_true q1]
          exact iteT ⟨true, rfl, iteT ⟨own, rfl, .inl ⟨_, rfl, ⟨by decide, by decide, by decide⟩, by decide, f⟩⟩⟩
        · refine ⟨decide (own < 0), rfl, ?_⟩
          rw [decide_eq_false q1]
          refine iteF ⟨⟨by decide, by decide, by decide⟩, decide ((10 : Int) ^ 18 ≤ own), rfl, ?_⟩
          rw [decide_eq_true (q.resolve_left q1)]
          exact iteT ⟨own, rfl, .inl ⟨_, rfl, ⟨by decide, by decide, by decide⟩, by decide, f⟩⟩
      · have f := fin 0 (by decide) (by decide)
        have q1 : ¬ own < 0 := fun z => q (.inl z)
        have q2 : ¬ (10 : Int) ^ 18 ≤ own := fun z => q (.inr z)
        refine ⟨decide (own < 0), rfl, ?_⟩
        rw [decide_eq_false q1]
        refine iteF ⟨⟨by decide, by decide, by decide⟩, decide ((10 : Int) ^ 18 ≤ own), rfl, ?_⟩
        rw [decide_eq_false q2]
        exact iteF f
  by_cases q : (lap : Int) < ns.length
  · refine ⟨_, rfl, ns.length, .inl ⟨_, rfl, rfl⟩, decide ((lap : Int) < ns.length), rfl, ?_⟩
    rw [decide_eq_true q]
    have hq : lap < ns.length := by omega
    exact iteT ⟨ns[lap], QL.atI_nat (List.getElem?_eq_getElem hq), .inl ⟨_, rfl, go _⟩⟩
  · refine ⟨_, rfl, ns.length, .inl ⟨_, rfl, rfl⟩, decide ((lap : Int) < ns.length), rfl, ?_⟩
    rw [decide_eq_false q]
    refine iteF ⟨cmul (by rw [p200]; omega) (by rw [p200]; omega), go _⟩
end
end K02
namespace K02
open PySem PySem.Spec PyProof.Rows L2 QL
/-! ### plain facts -/
theorem jn_comm : ∀ a b : List Int, jn b a = jn a b
  | [], [] => rfl
  | [], _ :: _ => rfl
  | _ :: _, [] => rfl
  | x :: a, y :: b => by
    have := jn_comm a b
    unfold jn at this ⊢
    rw [List.zip_cons_cons, List.zip_cons_cons, List.map_cons, List.map_cons, this]
    congr 1
    show max y x = max x y
    omega
theorem ov_zero : ∀ (n : Nat) (a b : List Int), a.length = n → b.length = n → decide (ov a b = List.replicate n 0) = nm a b
  | 0, [], [], _, _ => rfl
  | n + 1, x :: a, y :: b, h1, h2 => by
    have ih := ov_zero n a b (by simpa using h1) (by simpa using h2)
    have e1 : ov (x :: a) (y :: b) = max (x - y) 0 :: ov a b := rfl
    have e2 : nm (x :: a) (y :: b) = (decide (x ≤ y) && nm a b) := rfl
    rw [e1, e2, List.replicate_succ, ← ih, Bool.eq_iff_iff]
    simp only [decide_eq_true_eq, Bool.and_eq_true, List.cons.injEq]
    constructor
    · rintro ⟨p, q⟩; exact ⟨by omega, q⟩
    · rintro ⟨p, q⟩; exact ⟨by omega, q⟩
theorem zipIdx_range (a : List Int) : a.zipIdx = (List.range a.length).map fun i => (a.getD i 0, i) := by
  apply List.ext_getElem
  · simp
  · intro i h1 h2
    simp at h1
    simp [List.getD_eq_getElem?_getD, h1]
theorem suppN_eq (a : List Int) : suppN a = (List.range a.length).filter fun i => decide (0 < a.getD i 0) := by
  unfold suppN
  rw [zipIdx_range, List.filter_map, List.map_map]
  show List.map id _ = _
  rw [List.map_id]
  rfl
theorem suppN_nodup (a : List Int) : (suppN a).Nodup := by
  rw [suppN_eq]
  exact List.Nodup.sublist List.filter_sublist List.nodup_range
def rowE (n : Nat) (a : List Int) (i : Nat) : List Int := (List.range n).map fun j => if j = i then a.getD i 0 else 0
theorem row_eq (n : Nat) (a : List Int) (i : Nat) (hi : i < n) : (List.replicate n (0 : Int)).take i ++ (num (List.replicate n 0) a i :: (List.replicate n (0 : Int)).drop (i + 1)) = rowE n a i := by
  have e : num (List.replicate n 0) a i = a.getD i 0 := by
    unfold num
    rw [if_pos]
    rw [List.getD_eq_getElem?_getD, List.getElem?_replicate]
    simp [hi]
  rw [e]
  unfold rowE
  apply List.ext_getElem
  · simp; omega
  · intro j h1 h2
    simp at h2
    simp only [List.getElem_map, List.getElem_range]
    rw [List.getElem_append]
    split
    · rename_i h3
      simp at h3
      rw [if_neg (by omega)]
      simp
    · rename_i h3
      simp at h3
      rw [List.getElem_cons]
      simp only [List.length_take, List.length_replicate]
      split
      · rename_i h4
        rw [if_pos (by omega)]
      · rename_i h4
        rw [if_neg (by omega)]
        simp
theorem narrow_eq {n : Nat} {a : List Int} (hn : a.length = n) : narrow (List.replicate n 0) a = (suppN a).map (rowE n a) := by
  unfold narrow
  refine List.map_congr_left fun i hi => ?_
  exact row_eq n a i (by have := (suppN_lt hi).1; omega)
theorem addN_new {acc : List (List Int)} {k : List Int} (h : k ∉ acc) : addN acc k = acc ++ [k] := by
  unfold addN
  simp [h]
theorem dedup_go : ∀ (l acc : List (List Int)), (acc ++ l).Nodup → l.foldl addN acc = acc ++ l
  | [], acc, _ => by simp
  | k :: l, acc, h => by
    rw [List.foldl_cons, addN_new, dedup_go l (acc ++ [k]) (by rw [List.append_assoc]; exact h), List.append_assoc]
    · rfl
    · intro z
      rw [List.nodup_append] at h
      exact h.2.2 k z k (by simp) rfl
theorem dedup_nodup {l : List (List Int)} (h : l.Nodup) : dedup l = l := by
  have := dedup_go l [] (by simpa using h)
  simpa [dedup] using this
theorem rowE_at {n : Nat} {a : List Int} {i j : Nat} (h : j < n) : (rowE n a i)[j]? = some (if j = i then a.getD i 0 else 0) := by
  unfold rowE
  rw [List.getElem?_map, List.getElem?_range h]
  rfl
theorem rowE_len {n : Nat} {a : List Int} {i : Nat} : (rowE n a i).length = n := by unfold rowE; simp
theorem rowE_nw {n : Nat} {a : List Int} (hn : a.length = n) {i j : Nat} (hi : i ∈ suppN a) (hj : j ∈ suppN a) (h : i ≠ j) : nw (rowE n a i) (rowE n a j) = false := by
  obtain ⟨j1, j2⟩ := suppN_lt hj
  obtain ⟨i1, i2⟩ := suppN_lt hi
  rw [Bool.eq_false_iff]
  intro z
  unfold nw at z
  rw [List.all_eq_true] at z
  have m : ((0 : Int), a.getD j 0) ∈ (rowE n a i).zip (rowE n a j) := by
    refine List.mem_of_getElem? (i := j) ?_
    rw [List.getElem?_zip_eq_some]
    exact ⟨by rw [rowE_at (by omega), if_neg (fun e => h e.symm)], by rw [rowE_at (by omega), if_pos rfl]⟩
  have := z _ m
  simp at this
  rw [List.getD_eq_getElem?_getD] at j2
  omega
theorem rowE_inj {n : Nat} {a : List Int} (hn : a.length = n) {i j : Nat} (hi : i ∈ suppN a) (hj : j ∈ suppN a) (h : rowE n a i = rowE n a j) : i = j := by
  obtain ⟨i1, i2⟩ := suppN_lt hi
  have e := rowE_at (n := n) (a := a) (i := i) (j := i) (by omega)
  rw [h, rowE_at (by omega), if_pos rfl] at e
  by_cases q : i = j
  · exact q
  · rw [if_neg q] at e
    simp only [Option.some.injEq] at e
    omega
theorem walls_eq {n : Nat} {a : List Int} (hn : a.length = n) : wallsW (narrow (List.replicate n 0) a) = sortI ((suppN a).map (rowE n a)) := by
  unfold wallsW
  rw [narrow_eq hn]
  have nd : ((suppN a).map (rowE n a)).Nodup := by
    unfold List.Nodup
    rw [List.pairwise_map]
    refine List.Pairwise.imp_of_mem ?_ (suppN_nodup a)
    intro i j hi hj ne e
    exact ne (rowE_inj hn hi hj e)
  rw [dedup_nodup nd]
  congr 1
  rw [List.filter_eq_self]
  intro x hx
  obtain ⟨i, hi, rfl⟩ := List.mem_map.mp hx
  simp only [Bool.not_eq_true', List.any_eq_false, List.mem_map, Bool.and_eq_true, decide_eq_true_eq]
  rintro y ⟨j, hj, rfl⟩ ⟨h1, h2⟩
  rw [rowE_nw hn hi hj (fun e => h1 (by rw [e]))] at h2
  exact Bool.false_ne_true h2
/-! what is asked whether it is even -/
theorem ev_int {n : Nat} {i : Int} (h : i.natAbs < 2 ^ 256) : evD (n + 1) (.int i) = true := by
  show (if i.natAbs.log2 < 1920 then some (Str.ofString (toString i)) else none).isSome = true
  rw [if_pos]
  · rfl
  · have := PySem.Flt.log2_lt_of (show 0 < 256 by decide) h
    omega
theorem ev_bl {n : Nat} {b : Bool} : evD (n + 1) (.bl b) = true := rfl
theorem ev_tup {n : Nat} {xs : DS} (h : xs.length ≤ 1000) (q : ∀ x ∈ xs, evD n x = true) : evD (n + 1) (.tup xs) = true := by
  show (decide (xs.length ≤ 1000) && xs.all (evD n)) = true
  rw [decide_eq_true h, Bool.true_and, List.all_eq_true]
  exact q
theorem ev_cell {n : Nat} {a : List Int} (h : a.length ≤ 1000) (q : ∀ x ∈ a, 0 ≤ x ∧ x < 10 ^ 60) : evD (n + 2) (tupI a) = true := by
  refine ev_tup (by rw [List.length_map]; exact h) fun x hx => ?_
  obtain ⟨i, hi, rfl⟩ := List.mem_map.mp hx
  have p256 : (2 : Nat) ^ 256 = 115792089237316195423570985008687907853269984665640564039457584007913129639936 := by decide
  have p60 : (10 : Int) ^ 60 = 1000000000000000000000000000000000000000000000000000000000000 := by decide
  have := q i hi
  rw [p60] at this
  exact ev_int (by rw [p256]; omega)
theorem CellB.nums {m : Int} {a : List Int} (h : CellB m a) : ∀ x ∈ a, 0 ≤ x ∧ x < 10 ^ 60 := by
  intro x hx
  have := h.1
  unfold isCell at this
  simp only [Bool.and_eq_true, decide_eq_true_eq, List.all_eq_true] at this
  exact ⟨this.2 x hx, h.2 x hx⟩
theorem CellB.jn {m : Int} {a b : List Int} (h1 : CellB m a) (h2 : CellB m b) : CellB m (jn a b) := by
  refine ⟨isCell_jn h1.1 h2.1, fun x hx => ?_⟩
  unfold K02.jn at hx
  obtain ⟨p, hp, rfl⟩ := List.mem_map.mp hx
  have q1 := h1.2 _ (List.of_mem_zip hp).1
  have q2 := h2.2 _ (List.of_mem_zip hp).2
  omega
theorem CellB.ov {m : Int} {a b : List Int} (h1 : CellB m a) (h2 : CellB m b) : CellB m (ov a b) := by
  refine ⟨isCell_ov h1.1 h2.1, fun x hx => ?_⟩
  unfold K02.ov at hx
  obtain ⟨p, hp, rfl⟩ := List.mem_map.mp hx
  have q1 := h1.nums _ (List.of_mem_zip hp).1
  have q2 := h2.nums _ (List.of_mem_zip hp).2
  have p60 : (10 : Int) ^ 60 = 1000000000000000000000000000000000000000000000000000000000000 := by decide
  rw [p60] at *
  omega
theorem sum_le : ∀ (a : List Int), (∀ x ∈ a, 0 ≤ x ∧ x < 10 ^ 60) → 0 ≤ a.sum ∧ a.sum ≤ a.length * 10 ^ 60
  | [], _ => ⟨by decide, by simp⟩
  | x :: a, h => by
    have h1 := h x (by simp)
    have h2 := sum_le a fun y hy => h y (by simp [hy])
    have p60 : (10 : Int) ^ 60 = 1000000000000000000000000000000000000000000000000000000000000 := by decide
    rw [p60] at *
    rw [List.sum_cons, List.length_cons]
    omega
end K02
namespace K02
open PySem PySem.Spec PyProof.Rows L2 QL
def F_right : FS := ⟨fun ds st k => ds = [.brook] ∧ BrOk st ∧ ∀ st', k (.bl true) st', fun _ _ _ _ f ⟨h1, h2, h3⟩ => ⟨h1, h2, fun st' => f _ _ (h3 st')⟩, false⟩
def F_law : FS := fnS fun ds d => ∃ ns : List Int, ds = [.scr ns] ∧ ns.length ≤ 1000 ∧ d = .bl true
/-- what the law calls -/
def rightL : List FS := [F_any.pick [0, 1], F_drop.pick [0, 1], F_under.pick [0, 1], (F_even 5).pick [0, 1],
  (F_cc fun _ a b => .bl (nm a b)).pick [0, 1, 2], (F_cc fun _ a b => .bl (nm a b)).pick [2, 1, 0], (F_cc fun _ a b => tupI (jn a b)).pick [0, 1, 2], (F_cc fun _ a b => tupI (jn a b)).pick [2, 1, 0], (F_cc fun _ a b => tupI (ov a b)).pick [0, 1, 2], (F_cc fun _ a b => tupI (ov a b)).pick [2, 1, 0],
  (F_c fun m a => .bl true).pick [0, 1], (F_c fun _ a => tupI (supp a)).pick [1, 0], (F_c fun _ a => tupI (supp a)).pick [0, 1], (F_c fun _ a => .int a.sum).pick [1, 0], (F_c fun _ a => .int a.sum).pick [0, 1],
  F_divided.pick [0, 1, 2], F_both.pick [0, 1, 2], F_has.pick [0, 1, 2], F_walls_of.pick [0, 1]]
theorem ev2 {n : Nat} {x y : D} (h1 : evD n x = true) (h2 : evD n y = true) : evD (n + 1) (.tup [x, y]) = true := ev_tup (by simp) (by simp [h1, h2])
theorem ev3 {n : Nat} {x y z : D} (h1 : evD n x = true) (h2 : evD n y = true) (h3 : evD n z = true) : evD (n + 1) (.tup [x, y, z]) = true := ev_tup (by simp) (by simp [h1, h2, h3])
theorem ev1 {n : Nat} {x : D} (h1 : evD n x = true) : evD (n + 1) (.tup [x]) = true := ev_tup (by simp) (by simp [h1])
theorem repZ (m : Int) : QL.repD m.toNat [.int 0] = (List.replicate m.toNat (0 : Int)).map D.int := by
  generalize m.toNat = n
  unfold QL.repD
  induction n with
  | zero => rfl
  | succ n ih =>
    rw [List.replicate_succ, List.flatten_cons, ih]
    rfl
theorem lot_eq (a : List Int) (h : ∀ x ∈ a, 0 ≤ x) : ((List.range a.length).filter fun i => !decide (a.getD i 0 = 0)).map (fun i : Nat => (i : Int)) = supp a := by
  rw [supp_eq, suppN_eq]
  congr 1
  refine List.filter_congr fun i hi => ?_
  rw [List.mem_range] at hi
  have : a.getD i 0 ∈ a := by
    rw [List.getD_eq_getElem?_getD, List.getElem?_eq_getElem hi]
    exact List.getElem_mem hi
  have := h _ this
  rw [Bool.eq_iff_iff]
  simp
  rw [List.getD_eq_getElem?_getD] at this
  omega
theorem walls_list {n : Nat} (a : List Int) (hn : a.length = n) : ((a.zipIdx.filter fun p => decide (0 < p.1)).map fun p => (List.range n).map fun j => if j = p.2 then p.1 else (0 : Int)) = (suppN a).map (rowE n a) := by
  unfold suppN
  rw [List.map_map]
  refine List.map_congr_left fun p hp => ?_
  have h1 := List.mem_zipIdx_iff_getElem?.mp (List.mem_filter.mp hp).1
  show _ = rowE n a p.2
  unfold rowE
  rw [List.getD_eq_getElem?_getD, h1]
  rfl
section
variable {P : Program} {w : World} {K : PySem.W.Frag} {mg : Str → Option Value} {base : Heap}
theorem d_law (bi : ∀ x ∈ biNames, mg x = none) {k : Nat} (d : DefIn K mg "law" s_law) (c1 : CalQ P w K mg base k "_law_brook" [] 2 (F_brook.pick [0, 1])) (c2 : CalQ P w K mg base k "_law_right" [] 1 (F_right.pick [0])) : DefQ P w K mg base "law" s_law ["script"] (k + 1) F_law := by
  refine defQ (cc := k_law) (code := c_law) (l := [F_brook.pick [0, 1], F_right.pick [0]]) d f_law m_law bi (fun p h => nomatch h) (.cons c1 (Nat.le_refl _) (.cons c2 (Nat.le_refl _) .nil)) fun ds st kk hl ⟨d, ⟨ns, e, hz, ed⟩, hk⟩ => ?_
  subst e ed
  have z : (sizeLine : Nat) = 16777216 := by decide
  have z' : (sizeLine : Int) = 16777216 := by rw [z]; rfl
  refine ⟨_, rfl, ns.length, .inl ⟨_, rfl, rfl⟩, _, _, rfl, _, _, rfl, _, rfl, by omega, by omega, ?_⟩
  rw [rgD0]
  refine wMap_fm (.nm 1) _ (fun _ => .int 1) (fun _ => false) _ _ _ (fun i hi st K Z h1 h2 => ?_) ?_
  · rw [List.mem_range] at hi
    refine ⟨rfl, rfl, ns, i, rfl, by omega, fun d hd => ⟨d, rfl, hd.isI, rfl, hd, fun st' => ⟨rfl, true, rfl, false, rfl, iteF (h2 rfl)⟩⟩⟩
  · exact ⟨Nat.zero_le _, okC_ones _, rfl, by rw [eqD_ones, List.filter_eq_nil_iff.mpr (fun _ _ z => Bool.false_ne_true z)]; exact hk⟩
end
end K02
namespace K02
open PySem PySem.Spec PyProof.Rows L2 QL
section
variable {P : Program} {w : World} {K : PySem.W.Frag} {mg : Str → Option Value} {base : Heap}
theorem cell_split {m : Int} {a b : List Int} (h1 : CellB m a) (h2 : CellB m b) {r : Nat} (hr : (r : Int) < m) : CellB m (a.take r ++ [b.getD r 0] ++ a.drop (r + 1)) := by
  have l1 := len_of h1.1
  have l2 := len_of h2.1
  have hb : b.getD r 0 ∈ b := by
    rw [List.getD_eq_getElem?_getD, List.getElem?_eq_getElem (by omega)]
    exact List.getElem_mem _
  refine ⟨?_, fun x hx => ?_⟩
  · unfold isCell
    simp only [Bool.and_eq_true, decide_eq_true_eq, List.all_eq_true]
    refine ⟨by simp; omega, fun x hx => ?_⟩
    simp only [List.mem_append, List.mem_singleton] at hx
    rcases hx with (hx | hx) | hx
    · exact (h1.nums x (List.mem_of_mem_take hx)).1
    · rw [hx]; exact (h2.nums _ hb).1
    · exact (h1.nums x (List.mem_of_mem_drop hx)).1
  · simp only [List.mem_append, List.mem_singleton] at hx
    rcases hx with (hx | hx) | hx
    · exact h1.2 x (List.mem_of_mem_take hx)
    · rw [hx]; exact h2.2 _ hb
    · exact h1.2 x (List.mem_of_mem_drop hx)
/-- one lap, from the two cells on -/
def lapC : C := match c_law_right with
  | .for_ _ _ (.set _ _ (.tgt _ _ (.set _ _ (.set _ _ r)))) _ => r
  | c => c
theorem lap_ok {i m at_ : Int} {a b : List Int} (hm1 : 1 ≤ m) (hm2 : m ≤ 5) (h1 : CellB m a) (h2 : CellB m b) (E' : EnD) (y6 y7 y8 y9 y10 y11 y12 y13 y14 : Option D) (st : DS)
    (hn : ∀ y6 y7 y8 y9 y10 y11 y12 y13 y14, E'.nx [some .brook, some (.int i), some (.int m), some (tupI a), some (tupI b), some (.int at_), y6, y7, y8, y9, y10, y11, y12, y13, y14] st) :
    wS (gam rightL) lapC E' [some .brook, some (.int i), some (.int m), some (tupI a), some (tupI b), some (.int at_), y6, y7, y8, y9, y10, y11, y12, y13, y14] st := by
  have z : (sizeLine : Nat) = 16777216 := by decide
  have z' : (sizeLine : Int) = 16777216 := by rw [z]; rfl
  have l1 := len_of h1.1
  have l2 := len_of h2.1
  have q3 : (3 : Nat) ≤ sizeLine := by rw [z]; decide
  have q2 : (2 : Nat) ≤ sizeLine := by rw [z]; decide
  have q1 : (1 : Nat) ≤ sizeLine := by rw [z]; decide
  have q5 : (5 : Nat) ≤ sizeLine := by rw [z]; decide
  have cj : evD 3 (tupI (jn a b)) = true := ev_cell (by rw [jn_len (n := a.length) rfl (by omega)]; omega) (h1.jn h2).nums
  have co : evD 3 (tupI (ov a b)) = true := ev_cell (by rw [ov_len (n := a.length) rfl (by omega)]; omega) (h1.ov h2).nums
  -- under, join, left
  refine ⟨rfl, rfl, _, ⟨a, b, rfl, rfl⟩, ?_⟩
  refine ⟨_, _, _, _, rfl, .inl rfl, .inl rfl, ?_⟩
  rw [zipD_map]
  refine wMap_map (.tp (.tc (.nm 12) (.tc (.nm 13) .tn))) _ (fun p => .int (max p.1 p.2)) _ _ _ (fun p _ st K h => ?_) ?_
  · refine ⟨_, rfl, rfl, _, _, rfl, _, _, rfl, rfl, decide (p.1 < p.2), rfl, ?_⟩
    by_cases q : p.1 < p.2
    · rw [decide_eq_true q]
      rw [show max p.1 p.2 = p.2 by omega] at h
      exact iteT h
    · rw [decide_eq_false q]
      rw [show max p.1 p.2 = p.1 by omega] at h
      exact iteF h
  rw [show ((a.zip b).map fun p => D.int (max p.1 p.2)) = (jn a b).map D.int from QL.ints_map _ _]
  refine ⟨_, .inl rfl, ?_⟩
  refine ⟨_, _, _, _, rfl, .inl rfl, .inl rfl, ?_⟩
  rw [zipD_map]
  refine wMap_map (.tp (.tc (.nm 12) (.tc (.nm 13) .tn))) _ (fun p => .int (max (p.1 - p.2) 0)) _ _ _ (fun p _ st K h => ?_) ?_
  · refine ⟨_, rfl, rfl, _, _, rfl, _, _, rfl, rfl, decide (p.2 < p.1), rfl, ?_⟩
    by_cases q : p.2 < p.1
    · rw [decide_eq_true q]
      rw [show max (p.1 - p.2) 0 = p.1 - p.2 by omega] at h
      exact iteT h
    · rw [decide_eq_false q]
      rw [show max (p.1 - p.2) 0 = 0 by omega] at h
      exact iteF h
  rw [show ((a.zip b).map fun p => D.int (max (p.1 - p.2) 0)) = (ov a b).map D.int from QL.ints_map _ _]
  refine ⟨_, .inl rfl, ?_⟩
  -- no more
  refine ⟨rfl, rfl, _, ⟨m, a, b, rfl, hm1, hm2, h1.1, h2.1, rfl⟩, rfl, rfl, _, ⟨m, a, b, rfl, hm1, hm2, h1.1, h2.1, rfl⟩, rfl, rfl, _, ⟨m, b, a, rfl, hm1, hm2, h2.1, h1.1, rfl⟩, q3, ?_⟩
  refine ⟨rfl, rfl, _, ⟨b, a, rfl, rfl⟩, q3, rfl, rfl, _, ⟨_, rfl, ev3 (n := 4) rfl rfl rfl, rfl⟩, true, rfl, false, rfl, iteF ?_⟩
  -- joined
  refine ⟨rfl, rfl, tupI (jn a b), ⟨m, a, b, rfl, hm1, hm2, h1.1, h2.1, rfl⟩, rfl, rfl, tupI (jn a b), ⟨m, a, b, rfl, hm1, hm2, h1.1, h2.1, rfl⟩, rfl, rfl, tupI (jn a b), ⟨m, b, a, rfl, hm1, hm2, h2.1, h1.1, (congrArg tupI (jn_comm a b)).symm⟩, q3, ?_⟩
  refine ⟨q1, by decide, by exact (show (1 : Nat) ≤ 1000 from by decide), by decide, rfl, rfl, _, ⟨.tup [tupI (jn a b), tupI (jn a b), tupI (jn a b)], rfl, ev3 (n := 4) (ev_cell (n := 2) (by rw [jn_len (n := a.length) rfl (by omega)]; omega) (h1.jn h2).nums) (ev_cell (n := 2) (by rw [jn_len (n := a.length) rfl (by omega)]; omega) (h1.jn h2).nums) (ev_cell (n := 2) (by rw [jn_len (n := a.length) rfl (by omega)]; omega) (h1.jn h2).nums), rfl⟩, true, rfl, false, rfl, iteF ?_⟩
  -- over
  refine ⟨rfl, rfl, tupI (ov a b), ⟨m, a, b, rfl, hm1, hm2, h1.1, h2.1, rfl⟩, rfl, rfl, tupI (ov a b), ⟨m, a, b, rfl, hm1, hm2, h1.1, h2.1, rfl⟩, q2, ?_⟩
  refine ⟨q2, rfl, rfl, _, ⟨.tup [tupI (ov a b), tupI (ov a b)], rfl, ev2 (n := 4) (ev_cell (n := 2) (by rw [ov_len (n := a.length) rfl (by omega)]; omega) (h1.ov h2).nums) (ev_cell (n := 2) (by rw [ov_len (n := a.length) rfl (by omega)]; omega) (h1.ov h2).nums), rfl⟩, true, rfl, false, rfl, iteF ?_⟩
  refine ⟨rfl, rfl, tupI (ov a b), ⟨m, a, b, rfl, hm1, hm2, h1.1, h2.1, rfl⟩, q1, by omega, by exact (show (1 : Nat) ≤ 1000 from by decide), by omega, ?_⟩
  rw [show QL.repD m.toNat [(Cn.int 0).d] = _ from repZ m]
  refine ⟨okC_tupI _, okC_tupI _, rfl, rfl, false, ?_, iteF ?_⟩
  · have e1 := eqD_tupI (ov a b) (List.replicate m.toNat 0)
    rw [ov_zero m.toNat a b (by omega) (by omega)] at e1
    show D.bl (!(nm a b == eqD (tupI (ov a b)) (tupI (List.replicate m.toNat 0)))) = _
    rw [e1]
    simp
  -- lot, total
  refine ⟨m, rfl, by omega, by omega, ?_⟩
  rw [rgD0]
  refine wMap_fm (.nm 14) _ (fun i : Nat => .int (i : Int)) (fun i => !decide (a.getD i 0 = 0)) _ _ _ (fun i hi st K Z h1 h2 => ?_) ?_
  · rw [List.mem_range] at hi
    exact ⟨_, ix_tup (by omega), rfl, rfl, tst rfl h1 h2⟩
  rw [show ((List.range m.toNat).filter fun i => !decide (a.getD i 0 = 0)).map (fun i : Nat => D.int (i : Int)) = (supp a).map D.int from by
    rw [show m.toNat = a.length by omega, QL.ints_map (fun i : Nat => (i : Int)), lot_eq a (fun x hx => (h1.nums x hx).1)]]
  refine ⟨_, .inl rfl, ?_⟩
  refine ⟨_, .inl rfl, ?_⟩
  refine wFor_ind (.nm 11) _ _ D.int (fun done rest ρ st' => st' = st ∧ done ++ rest = a ∧ ∃ y : Option D, ρ = [some .brook, some (.int i), some (.int m), some (tupI a), some (tupI b), some (.int at_), some (.bl (nm a b)), some (tupI (jn a b)), some (tupI (ov a b)), some (tupI (supp a)), some (.int done.sum), y, y12, y13, y14]) [] _ _ _ ⟨rfl, rfl, y11, rfl⟩
    (fun done x rest ρ st' ⟨e1, e2, y, e3⟩ => ?_) (fun done ρ st' ⟨e1, e2, y, e3⟩ => ?_)
  · subst e1 e3
    intro E' hn _ _ _
    refine hn _ _ ⟨rfl, by rw [← e2, List.append_assoc]; rfl, some (.int x), ?_⟩
    rw [List.sum_append]
    show [_, _, _, _, _, _, _, _, _, _, some (D.int (done.sum + x)), _, _, _, _] = _
    rw [show [x].sum = x by simp]
  subst e1 e3
  rw [List.append_nil] at e2
  rw [e2]
  have p256 : (2 : Nat) ^ 256 = 115792089237316195423570985008687907853269984665640564039457584007913129639936 := by decide
  have p60 : (10 : Int) ^ 60 = 1000000000000000000000000000000000000000000000000000000000000 := by decide
  have sm := sum_le a h1.nums
  rw [p60] at sm
  have es : evD 4 (.int a.sum) = true := ev_int (by rw [p256]; omega)
  have lsup : (supp a).length ≤ 5 := by
    rw [supp_eq, List.length_map]
    have := suppN_len a
    omega
  have el : evD 4 (tupI (supp a)) = true := ev_cell (n := 2) (by omega) fun x hx => by
    rw [supp_eq] at hx
    obtain ⟨j, hj, rfl⟩ := List.mem_map.mp hx
    have := (suppN_lt hj).1
    rw [p60]
    omega
  refine ⟨rfl, rfl, _, ⟨m, a, rfl, hm1, hm2, h1.1, rfl⟩, rfl, rfl, _, ⟨m, a, rfl, hm1, hm2, h1.1, rfl⟩, rfl, rfl, _, ⟨m, a, rfl, hm1, hm2, h1.1, rfl⟩, rfl, rfl, _, ⟨m, a, rfl, hm1, hm2, h1.1, rfl⟩, rfl, rfl, _, ⟨m, a, rfl, hm1, hm2, h1.1, rfl⟩, q5, ?_⟩
  refine ⟨q5, rfl, rfl, _, ⟨.tup [.int a.sum, .int a.sum, tupI (supp a), tupI (supp a), .bl true], rfl, ev_tup (by simp) (by simp [es, el, ev_bl]), rfl⟩, true, rfl, false, rfl, iteF ?_⟩
  -- bodies of one corner
  refine ⟨q1, rfl, rfl, _, ⟨m, a, b, rfl, hm1, hm2, h1.1, h2.1, rfl⟩, q1, q1, rfl, rfl, _, ⟨m, a, b, rfl, hm1, hm2, h1.1, h2.1, rfl⟩, q1, q1, rfl, rfl, _, ⟨m, a, b, rfl, hm1, hm2, h1.1, h2.1, rfl⟩, q3, ?_⟩
  refine ⟨q1, q1, q3, rfl, rfl, _, ⟨.tup [.bl (nm a b), .tup [tupI (jn a b)], .tup [tupI (ov a b)]], rfl, ev3 (n := 4) rfl (ev1 cj) (ev1 co), rfl⟩, true, rfl, false, rfl, iteF ?_⟩
  -- walls
  refine ⟨q1, rfl, rfl, _, ⟨m, a, rfl, hm1, hm2, h1.1, rfl⟩, ?_⟩
  refine ⟨_, _, rfl, .inl rfl, ?_⟩
  rw [enumD_map]
  refine wMap_fm (.tp (.tc (.nm 5) (.tc (.nm 11) .tn))) _ (fun p => tupI ((List.range m.toNat).map fun j => if j = p.2 then p.1 else (0 : Int))) (fun p => decide (0 < p.1)) _ _ _ (fun p hp st K Z k1 k2 => ?_) ?_
  · refine ⟨_, rfl, rfl, _, _, rfl, _, _, rfl, rfl, tst rfl (fun e => ?_) k2⟩
    refine ⟨m, rfl, by omega, by omega, ?_⟩
    rw [rgD0]
    refine wMap_map (.nm 14) _ (fun j : Nat => .int (if j = p.2 then p.1 else 0)) _ _ _ (fun j hj st K h => ?_) ?_
    · refine ⟨rfl, rfl, decide (j = p.2), ?_, ?_⟩
      · show D.bl (((j : Int) : Int) == ((p.2 : Nat) : Int)) = _
        congr 1
        rw [Bool.eq_iff_iff]
        simp
        omega
      · by_cases q : j = p.2
        · rw [decide_eq_true q]
          rw [if_pos q] at h
          exact iteT h
        · rw [decide_eq_false q]
          rw [if_neg q] at h
          exact iteF h
    · refine ⟨_, .inl rfl, ?_⟩
      rw [show ((List.range m.toNat).map fun j => D.int (if j = p.2 then p.1 else 0)) = ((List.range m.toNat).map fun j => if j = p.2 then p.1 else (0 : Int)).map D.int from QL.ints_map _ _]
      exact k1 e
  have ew : ((a.zipIdx.filter fun p => decide (0 < p.1)).map fun p => tupI ((List.range m.toNat).map fun j => if j = p.2 then p.1 else (0 : Int))) = ((suppN a).map (rowE m.toNat a)).map tupI := by
    rw [← walls_list a (by omega), List.map_map]
    rfl
  rw [ew]
  refine ⟨_, rfl, sortOk_tupI fun x hx => ?_, ?_⟩
  · obtain ⟨j, hj, rfl⟩ := List.mem_map.mp hx
    intro e
    have := congrArg List.length e
    rw [rowE_len] at this
    simp at this
    omega
  rw [sortD_tupI]
  refine ⟨_, .inl rfl, rfl, rfl, _, ⟨bodyD (wallsW (narrow (List.replicate m.toNat 0) a)), by rw [walls_eq (by omega)]; rfl, ?_, rfl⟩, true, rfl, false, rfl, iteF (hn _ _ _ _ _ _ _ _ _)⟩
  rw [walls_eq (by omega)]
  refine ev_tup ?_ fun x hx => ?_
  · rw [List.length_map]
    unfold sortI
    rw [List.length_mergeSort, List.length_map]
    have := suppN_len a
    omega
  · obtain ⟨y, hy, rfl⟩ := List.mem_map.mp hx
    unfold sortI at hy
    rw [List.mem_mergeSort] at hy
    obtain ⟨j, hj, rfl⟩ := List.mem_map.mp hy
    refine ev_cell (n := 2) (by rw [rowE_len]; omega) fun x hx => ?_
    unfold rowE at hx
    obtain ⟨t, ht, rfl⟩ := List.mem_map.mp hx
    have hj' := (suppN_lt hj).1
    have hm : a.getD j 0 ∈ a := by
      rw [List.getD_eq_getElem?_getD, List.getElem?_eq_getElem hj']
      exact List.getElem_mem hj'
    have := h1.nums _ hm
    rw [p60] at this ⊢
    split
    · exact this
    · omega
end
end K02
namespace K02
open PySem PySem.Spec PyProof.Rows L2 QL
section
variable {P : Program} {w : World} {K : PySem.W.Frag} {mg : Str → Option Value} {base : Heap}
theorem d_law_right (bi : ∀ x ∈ biNames, mg x = none) {k : Nat} (d : DefIn K mg "_law_right" s_law_right) (c : CalL P w K mg base k k_law_right.fns rightL) : DefQ P w K mg base "_law_right" s_law_right ["brook"] (k + 1) F_right := by
  refine defQ (cc := k_law_right) (code := c_law_right) (l := rightL) d f_law_right m_law_right bi (fun p h => nomatch h) c fun ds st kk hl ⟨e, h0, hk⟩ => ?_
  subst e
  have z : (sizeLine : Nat) = 16777216 := by decide
  have z' : (sizeLine : Int) = 16777216 := by rw [z]; rfl
  refine ⟨30, rfl, by omega, by omega, ?_⟩
  rw [rgD0]
  refine wFor_ind (.nm 1) _ _ (fun i : Nat => D.int (i : Int)) (fun _ _ ρ st' => BrOk st' ∧ ∃ y1 y2 y3 y4 y5 y6 y7 y8 y9 y10 y11 y12 y13 y14, ρ = [some .brook, y1, y2, y3, y4, y5, y6, y7, y8, y9, y10, y11, y12, y13, y14]) [] _ _ _ ⟨h0, none, none, none, none, none, none, none, none, none, none, none, none, none, none, rfl⟩
    (fun done i rest ρ st' ⟨e1, y1, y2, y3, y4, y5, y6, y7, y8, y9, y10, y11, y12, y13, y14, e3⟩ => ?_) (fun done ρ st' ⟨e1, y1, y2, y3, y4, y5, y6, y7, y8, y9, y10, y11, y12, y13, y14, e3⟩ => ?_)
  · subst e3
    intro E' hn _ _ _
    refine .inl ⟨_, rfl, by decide, ?_⟩
    have m1 : 1 ≤ 1 + (i : Int) % 5 := by omega
    have m2 : 1 + (i : Int) % 5 ≤ 5 := by omega
    show wS _ _ _ (List.set _ 2 (some (D.int (1 + (i : Int) % 5)))) _
    generalize 1 + (i : Int) % 5 = m at *
    refine ⟨rfl, rfl, e1, m, rfl, by omega, by omega, fun a st1 ca b1 => ?_⟩
    refine ⟨rfl, rfl, b1, m, rfl, by omega, by omega, fun b st2 cb b2 => ?_⟩
    refine ⟨by exact (show (2 : Nat) ≤ sizeLine from by rw [z]; decide), _, rfl, rfl, _, _, rfl, _, _, rfl, rfl, ?_⟩
    refine ⟨rfl, rfl, b2, m, rfl, by omega, by omega, fun r st3 r1 r2 b3 => ?_⟩
    obtain ⟨r, rfl⟩ := Int.eq_ofNat_of_zero_le r1
    have l1 := len_of ca.1
    have l2 := len_of cb.1
    have go : ∀ b : List Int, CellB m b → wS (gam rightL) lapC E' [some .brook, some (.int (i : Int)), some (.int m), some (tupI a), some (tupI b), some (.int (r : Int)), y6, y7, y8, y9, y10, y11, y12, y13, y14] st3 := fun b hb =>
      lap_ok m1 m2 ca hb E' y6 y7 y8 y9 y10 y11 y12 y13 y14 st3 fun y6 y7 y8 y9 y10 y11 y12 y13 y14 => hn _ _ ⟨b3, _, _, _, _, _, _, _, _, _, _, _, _, _, _, rfl⟩
    refine ⟨decide ((15 : Int) < i), rfl, ?_⟩
    by_cases q : (15 : Int) < i
    · rw [decide_eq_true q]
      refine iteT ⟨_, rfl, _, ix_tup (by omega), ?_⟩
      have e : QL.cutD (a.map D.int) none (some (r : Int)) ++ [D.int (b.getD r 0)] ++ QL.cutD (a.map D.int) (some ((r : Int) + 1)) none = (a.take r ++ [b.getD r 0] ++ a.drop (r + 1)).map D.int := by
        rw [show (r : Int) + 1 = ((r + 1 : Nat) : Int) by omega, cut_map, cut_map, cut_take _ _ (by omega), cut_drop]
        simp
      have n1 : (QL.cutD (a.map D.int) none (some (r : Int))).length ≤ 5 := by
        rw [cut_map, cut_take _ _ (by omega), List.length_map, List.length_take]; omega
      have n2 : (QL.cutD (a.map D.int) (some ((r : Int) + 1)) none).length ≤ 5 := by
        rw [show (r : Int) + 1 = ((r + 1 : Nat) : Int) by omega, cut_map, cut_drop, List.length_map, List.length_drop]; omega
      refine ⟨by exact (show (1 : Nat) ≤ sizeLine from by rw [z]; decide), ?_, _, rfl, ?_, ?_⟩
      · show _ + 1 ≤ sizeLine
        omega
      · rw [List.length_append, z]
        show _ + 1 + _ ≤ _
        omega
      · rw [e]
        exact go _ (cell_split ca cb r2)
    · rw [decide_eq_false q]
      exact iteF (go b cb)
  · subst e3
    have e1 : (K02.nm [0, 2] [1, 2]) = true := by decide
    have q2 : (2 : Nat) ≤ sizeLine := by rw [z]; decide
    have q3 : (3 : Nat) ≤ sizeLine := by rw [z]; decide
    have q1 : (1 : Nat) ≤ sizeLine := by rw [z]; decide
    refine ⟨q2, q2, rfl, rfl, _, ⟨2, [0, 2], [1, 2], rfl, by decide, by decide, by decide, by decide, rfl⟩, .inr ⟨_, _, rfl, rfl, true, by rw [e1]; rfl, iteT ?_⟩⟩
    refine ⟨q3, q3, rfl, rfl, tupI [1, 5, 2], ⟨3, [1, 0, 2], [0, 5, 2], rfl, by decide, by decide, by decide, by decide, rfl⟩, q3, okC_tupI _, okC_tupI [1, 5, 2], true, ?_, iteT ?_⟩
    · exact congrArg D.bl (eqD_tupI [1, 5, 2] [1, 5, 2])
    refine ⟨q2, q2, rfl, rfl, tupI [2, 0], ⟨2, [3, 1], [1, 4], rfl, by decide, by decide, by decide, by decide, rfl⟩, q2, okC_tupI _, okC_tupI [2, 0], true, ?_, iteT ?_⟩
    · exact congrArg D.bl (eqD_tupI [2, 0] [2, 0])
    refine ⟨q3, rfl, rfl, tupI [1], ⟨3, [0, 4, 0], rfl, by decide, by decide, by decide, rfl⟩, q1, okC_tupI _, okC_tupI [1], ?_⟩
    have e : eqD (tupI [1]) (tupI [1]) = true := eqD_tupI [1] [1]
    show kk (D.bl (eqD (tupI [1]) (tupI [1]))) _
    rw [e]
    exact hk _
end
end K02
namespace QL
open PySem PySem.Spec PyProof.Rows L2
theorem fun_one {K : PySem.W.Frag} {x : Str} {st : Stmt} {f : Addr} {fd fd' : FuncData} (a : L2.Fun K x x st f fd) (b : L2.Fun K x x st f fd') : fd = fd' := by
  obtain ⟨oc, od, kV, doc, pm, an, cdv, ct, osl, rfl, lk, hcd⟩ := a.ex
  obtain ⟨oc', od', kV', doc', pm', an', cdv', ct', osl', rfl, lk', hcd'⟩ := b.ex
  rw [lk] at lk'
  injection lk' with e
  injection e with e1 e2 e3 e4
  injection e3
theorem defIn_mk {K : PySem.W.Frag} {h : Heap} {mg : Str → Option Value} (X : K.In h) (G : h.Ns mainGlobals mg) {x : Str} {st : Stmt} {f : Addr} {od an : Option Addr} {sl : Array (Option Value)} {oc kV dc pm cd ct : Value}
    (a : PySem.W.nsIn K mainGlobals x = some (some (.ref f))) (l : K.lookup f = some ⟨oc, od, .func (PySem.W.fnOf x x (L2.defArgs st) (L2.defBody st) (L2.defScope st) .none kV dc pm an cd ct), sl⟩) (c : PySem.W.codeIn K cd x = true) (k : PySem.W.keepIn K (.ref f) = true) : DefIn K mg x st :=
  ⟨f, _, L2.fun_mk l c k, PySem.W.mg_of X G a⟩
theorem gi_mk {K : PySem.W.Frag} {h : Heap} {mg : Str → Option Value} (X : K.In h) (G : h.Ns mainGlobals mg) {x : Str} {i : Int} {t : Tok} (a : PySem.W.nsIn K mainGlobals x = some (some (.int i t))) : ∃ t, mg x = some (.int i t) := ⟨t, PySem.W.mg_of X G a⟩
theorem no_mk {K : PySem.W.Frag} {h : Heap} {mg : Str → Option Value} (X : K.In h) (G : h.Ns mainGlobals mg) {x : Str} (a : PySem.W.nsIn K mainGlobals x = some none) : mg x = none := PySem.W.mg_none_of X G a
theorem bi_mk {mg : Str → Option Value} (h1 : mg "len" = none) (h2 : mg "isinstance" = none) (h3 : mg "max" = none) (h4 : mg "min" = none) (h5 : mg "sum" = none) (h6 : mg "abs" = none) (h7 : mg "int" = none) (h8 : mg "tuple" = none) (h9 : mg "list" = none) (h10 : mg "all" = none) (h11 : mg "any" = none) (h12 : mg "divmod" = none) (h13 : mg "repr" = none) (h14 : mg "sorted" = none) (h15 : mg "range" = none) (h16 : mg "zip" = none) (h17 : mg "enumerate" = none) (h18 : mg "bool" = none) (h19 : mg "str" = none) : ∀ x ∈ biNames, mg x = none := by
  intro x hx
  simp only [biNames, List.mem_cons, List.not_mem_nil, or_false] at hx
  rcases hx with rfl | rfl | rfl | rfl | rfl | rfl | rfl | rfl | rfl | rfl | rfl | rfl | rfl | rfl | rfl | rfl | rfl | rfl | rfl <;> assumption
/-- the law's end: from what its def promises of a script to what is asked -/
theorem end_of {P : Program} {w : World} {K : PySem.W.Frag} {mg : Str → Option Value} {st : Stmt} {fa : Addr} {k : Nat} {F : FS} {nm : Str} (d : DefIn K mg nm st) (hmg : mg nm = some (.ref fa)) (H : ∀ base, DefQ P w K mg base nm st ["script"] k F)
    (hb : ∀ (kV doc pm : Value) (an : Option Addr) (cdv ct u : Value), bindArgs (PySem.W.fnOf nm nm (defArgs st) (defBody st) (defScope st) .none kV doc pm an cdv ct) ⟨[u], []⟩ = pure [(("script" : Str), u)]) :
    ∃ fd : FuncData, (∀ (s : Shared) (u : Value), BindsTo s fd ⟨[u], []⟩ [("script", u)]) ∧ ∀ base : Heap, K.In base → base.Ns mainGlobals mg → FnOk P w K mg base CX0 k fa fd ["script"] (spQ K 1 F) := by
  obtain ⟨f, fd, Fn, hm⟩ := d
  rw [hm] at hmg
  cases hmg
  refine ⟨fd, ?_, fun base _ _ => ?_⟩
  · obtain ⟨oc, od, kV, doc, pm, an, cdv, ct, osl, rfl, lk, hcd⟩ := Fn.ex
    exact fun s u => .of_eq (hb kV doc pm an cdv ct u)
  · obtain ⟨f', fd', Fn', hm', ok⟩ := H base
    rw [hm] at hm'
    cases hm'
    rw [fun_one Fn Fn']
    exact ok
theorem script_ok {K : PySem.W.Frag} {H : Hp} {a : Addr} {ns : List Int} {F : FS} {n : Nat} (hn : ns.length ≤ n) (hn2 : n ≤ sizeLine) (hO : Only H) (hS : SqL K H a (ns.map V.int)) (hF : ∀ k : Post, k (.bl true) [] → F.w [.scr ns] [] k) : spQ K 1 F [.ref a] H (fun v _ => v = .bl true) fun _ _ _ => False := by
  refine ⟨rfl, ⟨K, none, [], fun _ => False, fun _ => False, false⟩, rfl, rfl, fun _ h => h, [.scr ns], [], rfl, fun _ h => False.elim h, .cons (.scr ⟨Nat.le_trans hn hn2, ?_⟩) .nil, ?_⟩
  · rcases hS with (h | ⟨o, h⟩) | h
    · rcases hO a with q | ⟨o, xs, q⟩
      · rw [q] at h; cases h
      · rw [q] at h; cases h
    · exact .inl ⟨o, h⟩
    · exact .inr h
  · refine hF _ fun v H' _ _ r _ => ?_
    cases r
    rfl
theorem walkQ {l : PySem.W.OpenLaw} {k : Nat} {q : Program} {loose : List Str} {XP : (Str → Option Value) → Heap → Prop} {YP : World → Heap → Prop} {d : DefRec} {K : Params → PySem.W.Frag} (F : FS) (n : Nat)
    (hn : l.most = some n) (hn2 : n ≤ sizeLine) (hdf : d.params.defaults = []) (hr : Room k callerA) (hY : ∀ (w : World) (h : Heap), YP w h → (K w.params).In h)
    (hlaw : ∀ (ns : List Int) (kk : Post), ns.length ≤ n → kk (.bl true) [] → F.w [.scr ns] [] kk)
    (hF : ∀ (w : World) (mg : Str → Option Value) (fa : Addr) (h : Heap), (K w.params).In h → h.Ns mainGlobals mg → mg d.name = some (.ref fa) →
      ∃ fd : FuncData, (∀ (s : Shared) (u : Value), BindsTo s fd ⟨[u], []⟩ [("script", u)]) ∧ ∀ base : Heap, (K w.params).In base → base.Ns mainGlobals mg → FnOk l.prog w (K w.params) mg base CX0 k fa fd ["script"] (spQ (K w.params) 1 F)) :
    PySem.W.WalkO q loose XP YP l.row.toRowW d [] (fun f vs => PySem.call f vs) :=
  L2.walk_of (CX := fun _ => CX0) (sp := fun w => spQ (K w.params) 1 F) hn hn2 hdf hr hY hF (fun w H a ns hl hO hS => script_ok hl hn2 hO hS fun kk => hlaw ns kk hl) fun _ _ _ _ _ h => h
end QL
namespace K02
open PySem PySem.Spec PyProof.Rows L2 QL
set_option maxHeartbeats 0 in
theorem fin {P : Program} {w : World} {K : PySem.W.Frag} {mg : Str → Option Value} {h : Heap} {fa : Addr} (X : K.In h) (G : h.Ns mainGlobals mg) (hmg : mg "law" = some (.ref fa)) (bi : ∀ x ∈ biNames, mg x = none) (g5 : ∃ t, mg "MOST_LETTERS" = some (.int 5 t)) (g60 : ∃ t, mg "MOST_CORNERS" = some (.int 60 t))
    (e_is_whole : DefIn K mg "is_whole" s_is_whole)
    (e_is_between : DefIn K mg "is_between" s_is_between)
    (e_is_from : DefIn K mg "is_from" s_is_from)
    (e_check_many : DefIn K mg "check_many" s_check_many)
    (e_is_cell_by : DefIn K mg "is_cell_by" s_is_cell_by)
    (e_check_cell : DefIn K mg "check_cell" s_check_cell)
    (e_check_cells : DefIn K mg "check_cells" s_check_cells)
    (e_is_no_more : DefIn K mg "is_no_more" s_is_no_more)
    (e_joined_cells : DefIn K mg "joined_cells" s_joined_cells)
    (e_over_cell : DefIn K mg "over_cell" s_over_cell)
    (e_support_of : DefIn K mg "support_of" s_support_of)
    (e_noughts : DefIn K mg "noughts" s_noughts)
    (e_has_cell : DefIn K mg "has_cell" s_has_cell)
    (e_few : DefIn K mg "few" s_few)
    (e_body_with : DefIn K mg "body_with" s_body_with)
    (e_is_body_by : DefIn K mg "is_body_by" s_is_body_by)
    (e_check_body : DefIn K mg "check_body" s_check_body)
    (e_check_one : DefIn K mg "check_one" s_check_one)
    (e_check_two : DefIn K mg "check_two" s_check_two)
    (e_both_of : DefIn K mg "both_of" s_both_of)
    (e_over_corner : DefIn K mg "over_corner" s_over_corner)
    (e_both : DefIn K mg "both" s_both)
    (e_divided_by : DefIn K mg "divided_by" s_divided_by)
    (e_divided : DefIn K mg "divided" s_divided)
    (e_has : DefIn K mg "has" s_has)
    (e_support : DefIn K mg "support" s_support)
    (e_total_of : DefIn K mg "total_of" s_total_of)
    (e_is_cell : DefIn K mg "is_cell" s_is_cell)
    (e_is_no_wider : DefIn K mg "is_no_wider" s_is_no_wider)
    (e_does_bar : DefIn K mg "does_bar" s_does_bar)
    (e_is_clear_of : DefIn K mg "is_clear_of" s_is_clear_of)
    (e_walls_with : DefIn K mg "walls_with" s_walls_with)
    (e_narrowed : DefIn K mg "narrowed" s_narrowed)
    (e_walls_by : DefIn K mg "walls_by" s_walls_by)
    (e_walls_of : DefIn K mg "walls_of" s_walls_of)
    (e_law_drop : DefIn K mg "_law_drop" s_law_drop)
    (e_law_of : DefIn K mg "_law_of" s_law_of)
    (e_law_any : DefIn K mg "_law_any" s_law_any)
    (e_law_under : DefIn K mg "_law_under" s_law_under)
    (e_law_even : DefIn K mg "_law_even" s_law_even)
    (e_law_brook : DefIn K mg "_law_brook" s_law_brook)
    (e_no_more : DefIn K mg "no_more" s_no_more)
    (e_joined : DefIn K mg "joined" s_joined)
    (e_over : DefIn K mg "over" s_over)
    (e_law_right : DefIn K mg "_law_right" s_law_right)
    (e_law : DefIn K mg "law" s_law) :
    ∃ fd : FuncData, (∀ (s : Shared) (u : Value), BindsTo s fd ⟨[u], []⟩ [("script", u)]) ∧ ∀ base : Heap, K.In base → base.Ns mainGlobals mg → FnOk P w K mg base CX0 10 fa fd ["script"] (spQ K 1 F_law) := by
  refine end_of e_law hmg (fun base => ?_) fun _ _ _ _ _ _ _ => rfl
  have q_is_whole : DefQ P w K mg base "is_whole" s_is_whole ["value"] 1 F_is_whole := d_is_whole bi e_is_whole
  have q_is_between : DefQ P w K mg base "is_between" s_is_between ["value", "low", "high"] 2 F_is_between := d_is_between (j := 0) bi e_is_between (callQ q_is_whole [0] fun _ _ _ _ _ _ us ws h1 h2 => match us, ws, h1, h2 with | [_], [], _, _ => rfl)
  have q_is_from : DefQ P w K mg base "is_from" s_is_from ["value", "low"] 2 F_is_from := d_is_from bi e_is_from (callQ q_is_whole [0] fun _ _ _ _ _ _ us ws h1 h2 => match us, ws, h1, h2 with | [_], [], _, _ => rfl)
  have q_check_many : DefQ P w K mg base "check_many" s_check_many ["many", "most"] 3 F_check_many := d_check_many bi e_check_many (callQ q_is_between [0, 1, 2] fun _ _ _ _ _ _ us ws h1 h2 => match us, ws, h1, h2 with | [_, _, _], [], _, _ => rfl)
  have q_is_cell_by : DefQ P w K mg base "is_cell_by" s_is_cell_by ["many", "value"] 3 F_is_cell_by := d_is_cell_by bi e_is_cell_by (callQ q_is_from [0, 1] fun _ _ _ _ _ _ us ws h1 h2 => match us, ws, h1, h2 with | [_, _], [], _, _ => rfl)
  have q_check_cell : DefQ P w K mg base "check_cell" s_check_cell ["many", "cell"] 4 F_check_cell := d_check_cell bi e_check_cell (callQ q_is_cell_by [0, 1] fun _ _ _ _ _ _ us ws h1 h2 => match us, ws, h1, h2 with | [_, _], [], _, _ => rfl)
  have q_check_cells : DefQ P w K mg base "check_cells" s_check_cells ["many", "cell", "other_cell"] 5 F_check_cells := d_check_cells bi g5 e_check_cells (callQ q_check_many [0, 1] fun _ _ _ _ _ _ us ws h1 h2 => match us, ws, h1, h2 with | [_, _], [], _, _ => rfl) (callQ q_check_cell [0, 1] fun _ _ _ _ _ _ us ws h1 h2 => match us, ws, h1, h2 with | [_, _], [], _, _ => rfl)
  have q_is_no_more : DefQ P w K mg base "is_no_more" s_is_no_more ["cell", "other"] 1 F_is_no_more := d_is_no_more bi e_is_no_more
  have q_joined_cells : DefQ P w K mg base "joined_cells" s_joined_cells ["cell", "other"] 1 F_joined_cells := d_joined_cells bi e_joined_cells
  have q_over_cell : DefQ P w K mg base "over_cell" s_over_cell ["cell", "other"] 1 F_over_cell := d_over_cell bi e_over_cell
  have q_support_of : DefQ P w K mg base "support_of" s_support_of ["cell"] 1 F_support_of := d_support_of bi e_support_of
  have q_noughts : DefQ P w K mg base "noughts" s_noughts ["many"] 1 F_noughts := d_noughts bi e_noughts
  have q_has_cell : DefQ P w K mg base "has_cell" s_has_cell ["body", "cell"] 2 F_has_cell := d_has_cell bi e_has_cell (callQ q_is_no_more [0, 1] fun _ _ _ _ _ _ us ws h1 h2 => match us, ws, h1, h2 with | [_, _], [], _, _ => rfl)
  have q_few : DefQ P w K mg base "few" s_few ["found"] 1 F_few := d_few bi g60 e_few
  have q_body_with : DefQ P w K mg base "body_with" s_body_with ["cells"] 2 F_body_with := d_body_with bi e_body_with (callQ q_is_no_more [0, 1] fun _ _ _ _ _ _ us ws h1 h2 => match us, ws, h1, h2 with | [_, _], [], _, _ => rfl)
  have q_is_body_by : DefQ P w K mg base "is_body_by" s_is_body_by ["many", "value"] 4 F_is_body_by := d_is_body_by bi e_is_body_by (callQ q_is_cell_by [0, 1] fun _ _ _ _ _ _ us ws h1 h2 => match us, ws, h1, h2 with | [_, _], [], _, _ => rfl) (callQ q_is_no_more [0, 1] fun _ _ _ _ _ _ us ws h1 h2 => match us, ws, h1, h2 with | [_, _], [], _, _ => rfl)
  have q_check_body : DefQ P w K mg base "check_body" s_check_body ["many", "body"] 5 F_check_body := d_check_body bi g60 e_check_body (callQ q_is_body_by [0, 1] fun _ _ _ _ _ _ us ws h1 h2 => match us, ws, h1, h2 with | [_, _], [], _, _ => rfl)
  have q_check_one : DefQ P w K mg base "check_one" s_check_one ["many", "body"] 6 F_check_one := d_check_one bi g5 e_check_one (callQ q_check_many [0, 1] fun _ _ _ _ _ _ us ws h1 h2 => match us, ws, h1, h2 with | [_, _], [], _, _ => rfl) (callQ q_check_body [0, 1] fun _ _ _ _ _ _ us ws h1 h2 => match us, ws, h1, h2 with | [_, _], [], _, _ => rfl)
  have q_check_two : DefQ P w K mg base "check_two" s_check_two ["many", "body", "other"] 7 F_check_two := d_check_two bi e_check_two (callQ q_check_one [0, 1] fun _ _ _ _ _ _ us ws h1 h2 => match us, ws, h1, h2 with | [_, _], [], _, _ => rfl) (callQ q_check_body [0, 1] fun _ _ _ _ _ _ us ws h1 h2 => match us, ws, h1, h2 with | [_, _], [], _, _ => rfl)
  have q_both_of : DefQ P w K mg base "both_of" s_both_of ["body", "other"] 3 F_both_of := d_both_of bi e_both_of (callQ q_body_with [0] fun _ _ _ _ _ _ us ws h1 h2 => match us, ws, h1, h2 with | [_], [], _, _ => rfl) (callQ q_joined_cells [0, 1] fun _ _ _ _ _ _ us ws h1 h2 => match us, ws, h1, h2 with | [_, _], [], _, _ => rfl)
  have q_over_corner : DefQ P w K mg base "over_corner" s_over_corner ["body", "cell"] 3 F_over_corner := d_over_corner bi e_over_corner (callQ q_body_with [0] fun _ _ _ _ _ _ us ws h1 h2 => match us, ws, h1, h2 with | [_], [], _, _ => rfl) (callQ q_over_cell [0, 1] fun _ _ _ _ _ _ us ws h1 h2 => match us, ws, h1, h2 with | [_, _], [], _, _ => rfl)
  have q_both : DefQ P w K mg base "both" s_both ["many", "body", "other"] 8 F_both := d_both bi e_both (callQ q_check_two [0, 1, 2] fun _ _ _ _ _ _ us ws h1 h2 => match us, ws, h1, h2 with | [_, _, _], [], _, _ => rfl) (callQ q_few [0] fun _ _ _ _ _ _ us ws h1 h2 => match us, ws, h1, h2 with | [_], [], _, _ => rfl) (callQ q_both_of [0, 1] fun _ _ _ _ _ _ us ws h1 h2 => match us, ws, h1, h2 with | [_, _], [], _, _ => rfl)
  have q_divided_by : DefQ P w K mg base "divided_by" s_divided_by ["many", "body", "other"] 4 F_divided_by := d_divided_by bi e_divided_by (callQ q_noughts [0] fun _ _ _ _ _ _ us ws h1 h2 => match us, ws, h1, h2 with | [_], [], _, _ => rfl) (callQ q_both_of [0, 1] fun _ _ _ _ _ _ us ws h1 h2 => match us, ws, h1, h2 with | [_, _], [], _, _ => rfl) (callQ q_over_corner [0, 1] fun _ _ _ _ _ _ us ws h1 h2 => match us, ws, h1, h2 with | [_, _], [], _, _ => rfl)
  have q_divided : DefQ P w K mg base "divided" s_divided ["many", "body", "other"] 8 F_divided := d_divided bi e_divided (callQ q_check_two [0, 1, 2] fun _ _ _ _ _ _ us ws h1 h2 => match us, ws, h1, h2 with | [_, _, _], [], _, _ => rfl) (callQ q_few [0] fun _ _ _ _ _ _ us ws h1 h2 => match us, ws, h1, h2 with | [_], [], _, _ => rfl) (callQ q_divided_by [0, 1, 2] fun _ _ _ _ _ _ us ws h1 h2 => match us, ws, h1, h2 with | [_, _, _], [], _, _ => rfl)
  have q_has : DefQ P w K mg base "has" s_has ["many", "body", "cell"] 7 F_has := d_has bi e_has (callQ q_check_one [0, 1] fun _ _ _ _ _ _ us ws h1 h2 => match us, ws, h1, h2 with | [_, _], [], _, _ => rfl) (callQ q_check_cell [0, 1] fun _ _ _ _ _ _ us ws h1 h2 => match us, ws, h1, h2 with | [_, _], [], _, _ => rfl) (callQ q_has_cell [0, 1] fun _ _ _ _ _ _ us ws h1 h2 => match us, ws, h1, h2 with | [_, _], [], _, _ => rfl)
  have q_support : DefQ P w K mg base "support" s_support ["many", "cell"] 5 (F_c fun _ a => tupI (supp a)) := d_support bi g5 e_support (callQ q_check_many [0, 1] fun _ _ _ _ _ _ us ws h1 h2 => match us, ws, h1, h2 with | [_, _], [], _, _ => rfl) (callQ q_check_cell [0, 1] fun _ _ _ _ _ _ us ws h1 h2 => match us, ws, h1, h2 with | [_, _], [], _, _ => rfl) (callQ q_support_of [0] fun _ _ _ _ _ _ us ws h1 h2 => match us, ws, h1, h2 with | [_], [], _, _ => rfl)
  have q_total_of : DefQ P w K mg base "total_of" s_total_of ["many", "cell"] 5 (F_c fun _ a => .int a.sum) := d_total_of bi g5 e_total_of (callQ q_check_many [0, 1] fun _ _ _ _ _ _ us ws h1 h2 => match us, ws, h1, h2 with | [_, _], [], _, _ => rfl) (callQ q_check_cell [0, 1] fun _ _ _ _ _ _ us ws h1 h2 => match us, ws, h1, h2 with | [_, _], [], _, _ => rfl)
  have q_is_cell : DefQ P w K mg base "is_cell" s_is_cell ["many", "value"] 4 (F_c fun m a => .bl true) := d_is_cell bi g5 e_is_cell (callQ q_check_many [0, 1] fun _ _ _ _ _ _ us ws h1 h2 => match us, ws, h1, h2 with | [_, _], [], _, _ => rfl) (callQ q_is_cell_by [0, 1] fun _ _ _ _ _ _ us ws h1 h2 => match us, ws, h1, h2 with | [_, _], [], _, _ => rfl)
  have q_is_no_wider : DefQ P w K mg base "is_no_wider" s_is_no_wider ["wall", "other"] 1 F_is_no_wider := d_is_no_wider bi e_is_no_wider
  have q_does_bar : DefQ P w K mg base "does_bar" s_does_bar ["wall", "cell"] 1 F_does_bar := d_does_bar bi e_does_bar
  have q_is_clear_of : DefQ P w K mg base "is_clear_of" s_is_clear_of ["wall", "corner"] 2 F_is_clear_of := d_is_clear_of bi e_is_clear_of (callQ q_does_bar [0, 1] fun _ _ _ _ _ _ us ws h1 h2 => match us, ws, h1, h2 with | [_, _], [], _, _ => rfl)
  have q_walls_with : DefQ P w K mg base "walls_with" s_walls_with ["walls"] 2 F_walls_with := d_walls_with bi e_walls_with (callQ q_is_no_wider [0, 1] fun _ _ _ _ _ _ us ws h1 h2 => match us, ws, h1, h2 with | [_, _], [], _, _ => rfl)
  have q_narrowed : DefQ P w K mg base "narrowed" s_narrowed ["wall", "corner"] 2 F_narrowed := d_narrowed bi e_narrowed (callQ q_support_of [0] fun _ _ _ _ _ _ us ws h1 h2 => match us, ws, h1, h2 with | [_], [], _, _ => rfl)
  have q_walls_by : DefQ P w K mg base "walls_by" s_walls_by ["many", "body"] 3 F_walls_by := d_walls_by bi e_walls_by (callQ q_noughts [0] fun _ _ _ _ _ _ us ws h1 h2 => match us, ws, h1, h2 with | [_], [], _, _ => rfl) (callQ q_is_clear_of [0, 1] fun _ _ _ _ _ _ us ws h1 h2 => match us, ws, h1, h2 with | [_, _], [], _, _ => rfl) (callQ q_narrowed [0, 1] fun _ _ _ _ _ _ us ws h1 h2 => match us, ws, h1, h2 with | [_, _], [], _, _ => rfl) (callQ q_walls_with [0] fun _ _ _ _ _ _ us ws h1 h2 => match us, ws, h1, h2 with | [_], [], _, _ => rfl)
  have q_walls_of : DefQ P w K mg base "walls_of" s_walls_of ["many", "body"] 7 F_walls_of := d_walls_of bi e_walls_of (callQ q_check_one [0, 1] fun _ _ _ _ _ _ us ws h1 h2 => match us, ws, h1, h2 with | [_, _], [], _, _ => rfl) (callQ q_few [0] fun _ _ _ _ _ _ us ws h1 h2 => match us, ws, h1, h2 with | [_], [], _, _ => rfl) (callQ q_walls_by [0, 1] fun _ _ _ _ _ _ us ws h1 h2 => match us, ws, h1, h2 with | [_, _], [], _, _ => rfl)
  have q_law_drop : DefQ P w K mg base "_law_drop" s_law_drop ["brook", "many"] 1 F_drop := d_law_drop bi e_law_drop
  have q_law_of : DefQ P w K mg base "_law_of" s_law_of ["brook", "some"] 2 F_of := d_law_of bi e_law_of (callQ q_law_drop [0, 1] fun _ _ _ _ _ _ us ws h1 h2 => match us, ws, h1, h2 with | [_, _], [], _, _ => rfl)
  have q_law_any : DefQ P w K mg base "_law_any" s_law_any ["brook", "many"] 3 F_any := d_law_any bi e_law_any (callQ q_law_of [0, 1] fun _ _ _ _ _ _ us ws h1 h2 => match us, ws, h1, h2 with | [_, _], [], _, _ => rfl) (callQ q_law_drop [0, 1] fun _ _ _ _ _ _ us ws h1 h2 => match us, ws, h1, h2 with | [_, _], [], _, _ => rfl)
  have q_law_under : DefQ P w K mg base "_law_under" s_law_under ["one", "two"] 1 F_under := d_law_under bi e_law_under
  have q_law_even : DefQ P w K mg base "_law_even" s_law_even ["told", "due"] 5 (F_even 5) := d_law_even bi e_law_even 5
  have q_law_brook : DefQ P w K mg base "_law_brook" s_law_brook ["script", "lap"] 1 F_brook := d_law_brook bi e_law_brook
  have q_no_more : DefQ P w K mg base "no_more" s_no_more ["many", "cell", "other_cell"] 6 (F_cc fun _ a b => .bl (nm a b)) := d_two (g := fun a b => .bl (nm a b)) (F := F_is_no_more) (j := 0) (y := "is_no_more") (fun _ _ _ => rfl) bi e_no_more (callQ q_check_cells [0, 1, 2] fun _ _ _ _ _ _ us ws h1 h2 => match us, ws, h1, h2 with | [_, _, _], [], _, _ => rfl) (callQ q_is_no_more [0, 1] fun _ _ _ _ _ _ us ws h1 h2 => match us, ws, h1, h2 with | [_, _], [], _, _ => rfl) (fun a b st k h hk => ⟨_, ⟨a, b, rfl, h, rfl⟩, hk⟩) f_no_more m_no_more rfl rfl
  have q_joined : DefQ P w K mg base "joined" s_joined ["many", "cell", "other_cell"] 6 (F_cc fun _ a b => tupI (jn a b)) := d_two (g := fun a b => tupI (jn a b)) (F := F_joined_cells) (j := 0) (y := "joined_cells") (fun _ _ _ => rfl) bi e_joined (callQ q_check_cells [0, 1, 2] fun _ _ _ _ _ _ us ws h1 h2 => match us, ws, h1, h2 with | [_, _, _], [], _, _ => rfl) (callQ q_joined_cells [0, 1] fun _ _ _ _ _ _ us ws h1 h2 => match us, ws, h1, h2 with | [_, _], [], _, _ => rfl) (fun a b st k h hk => ⟨_, ⟨a, b, rfl, h, rfl⟩, hk⟩) f_joined m_joined rfl rfl
  have q_over : DefQ P w K mg base "over" s_over ["many", "cell", "other_cell"] 6 (F_cc fun _ a b => tupI (ov a b)) := d_two (g := fun a b => tupI (ov a b)) (F := F_over_cell) (j := 0) (y := "over_cell") (fun _ _ _ => rfl) bi e_over (callQ q_check_cells [0, 1, 2] fun _ _ _ _ _ _ us ws h1 h2 => match us, ws, h1, h2 with | [_, _, _], [], _, _ => rfl) (callQ q_over_cell [0, 1] fun _ _ _ _ _ _ us ws h1 h2 => match us, ws, h1, h2 with | [_, _], [], _, _ => rfl) (fun a b st k h hk => ⟨_, ⟨a, b, rfl, h, rfl⟩, hk⟩) f_over m_over rfl rfl
  have q_law_right : DefQ P w K mg base "_law_right" s_law_right ["brook"] 9 F_right := d_law_right (k := 8) bi e_law_right (.cons (callQ q_law_any [0, 1] fun _ _ _ _ _ _ us ws h1 h2 => match us, ws, h1, h2 with | [_, _], [], _, _ => rfl) (by decide) (.cons (callQ q_law_drop [0, 1] fun _ _ _ _ _ _ us ws h1 h2 => match us, ws, h1, h2 with | [_, _], [], _, _ => rfl) (by decide) (.cons (callQ q_law_under [0, 1] fun _ _ _ _ _ _ us ws h1 h2 => match us, ws, h1, h2 with | [_, _], [], _, _ => rfl) (by decide) (.cons (callQ q_law_even [0, 1] fun _ _ _ _ _ _ us ws h1 h2 => match us, ws, h1, h2 with | [_, _], [], _, _ => rfl) (by decide) (.cons (callQ q_no_more [0, 1, 2] fun _ _ _ _ _ _ us ws h1 h2 => match us, ws, h1, h2 with | [_, _, _], [], _, _ => rfl) (by decide) (.cons (callQ q_no_more [2, 1, 0] fun _ _ _ _ _ _ us ws h1 h2 => match us, ws, h1, h2 with | [], [_, _, _], _, _ => rfl) (by decide) (.cons (callQ q_joined [0, 1, 2] fun _ _ _ _ _ _ us ws h1 h2 => match us, ws, h1, h2 with | [_, _, _], [], _, _ => rfl) (by decide) (.cons (callQ q_joined [2, 1, 0] fun _ _ _ _ _ _ us ws h1 h2 => match us, ws, h1, h2 with | [], [_, _, _], _, _ => rfl) (by decide) (.cons (callQ q_over [0, 1, 2] fun _ _ _ _ _ _ us ws h1 h2 => match us, ws, h1, h2 with | [_, _, _], [], _, _ => rfl) (by decide) (.cons (callQ q_over [2, 1, 0] fun _ _ _ _ _ _ us ws h1 h2 => match us, ws, h1, h2 with | [], [_, _, _], _, _ => rfl) (by decide) (.cons (callQ q_is_cell [0, 1] fun _ _ _ _ _ _ us ws h1 h2 => match us, ws, h1, h2 with | [_, _], [], _, _ => rfl) (by decide) (.cons (callQ q_support [1, 0] fun _ _ _ _ _ _ us ws h1 h2 => match us, ws, h1, h2 with | [], [_, _], _, _ => rfl) (by decide) (.cons (callQ q_support [0, 1] fun _ _ _ _ _ _ us ws h1 h2 => match us, ws, h1, h2 with | [_, _], [], _, _ => rfl) (by decide) (.cons (callQ q_total_of [1, 0] fun _ _ _ _ _ _ us ws h1 h2 => match us, ws, h1, h2 with | [], [_, _], _, _ => rfl) (by decide) (.cons (callQ q_total_of [0, 1] fun _ _ _ _ _ _ us ws h1 h2 => match us, ws, h1, h2 with | [_, _], [], _, _ => rfl) (by decide) (.cons (callQ q_divided [0, 1, 2] fun _ _ _ _ _ _ us ws h1 h2 => match us, ws, h1, h2 with | [_, _, _], [], _, _ => rfl) (by decide) (.cons (callQ q_both [0, 1, 2] fun _ _ _ _ _ _ us ws h1 h2 => match us, ws, h1, h2 with | [_, _, _], [], _, _ => rfl) (by decide) (.cons (callQ q_has [0, 1, 2] fun _ _ _ _ _ _ us ws h1 h2 => match us, ws, h1, h2 with | [_, _, _], [], _, _ => rfl) (by decide) (.cons (callQ q_walls_of [0, 1] fun _ _ _ _ _ _ us ws h1 h2 => match us, ws, h1, h2 with | [_, _], [], _, _ => rfl) (by decide) .nil)))))))))))))))))))
  have q_law : DefQ P w K mg base "law" s_law ["script"] 10 F_law := d_law bi e_law (CalQ.mono (callQ q_law_brook [0, 1] fun _ _ _ _ _ _ us ws h1 h2 => match us, ws, h1, h2 with | [_, _], [], _, _ => rfl) (by decide)) (callQ q_law_right [0] fun _ _ _ _ _ _ us ws h1 h2 => match us, ws, h1, h2 with | [_], [], _, _ => rfl)
  exact q_law
end K02
open PySem PySem.W PyProof.Rows
set_option maxHeartbeats 0 in
theorem PySem.Challenge.cw_cornerwalls_k02_whole_cells_holds : PySem.Challenge.rw_cornerwalls_k02_whole_cells.Holds := by
  w_on; o_law; k_head; (case hw => w_witness2)
  k_fill
  refine QL.walkQ (l := PySem.Challenge.rw_cornerwalls_k02_whole_cells) (k := 10) K02.F_law 63 rfl (by decide) rfl ⟨rfl, by decide, by decide⟩ (fun w h Y => PySem.W.kIn_of Y) (fun ns kk hl hk => ⟨_, ⟨ns, rfl, by omega, rfl⟩, hk⟩) ?F
  case F =>
    intro w mg fa h KX G hmg
    refine K02.fin KX G hmg ?bi ?g5 ?g60 ?d0 ?d1 ?d2 ?d3 ?d4 ?d5 ?d6 ?d7 ?d8 ?d9 ?d10 ?d11 ?d12 ?d13 ?d14 ?d15 ?d16 ?d17 ?d18 ?d19 ?d20 ?d21 ?d22 ?d23 ?d24 ?d25 ?d26 ?d27 ?d28 ?d29 ?d30 ?d31 ?d32 ?d33 ?d34 ?d35 ?d36 ?d37 ?d38 ?d39 ?d40 ?d41 ?d42 ?d43 ?d44 ?d45
    case bi => exact QL.bi_mk (QL.no_mk KX G (by k_is)) (QL.no_mk KX G (by k_is)) (QL.no_mk KX G (by k_is)) (QL.no_mk KX G (by k_is)) (QL.no_mk KX G (by k_is)) (QL.no_mk KX G (by k_is)) (QL.no_mk KX G (by k_is)) (QL.no_mk KX G (by k_is)) (QL.no_mk KX G (by k_is)) (QL.no_mk KX G (by k_is)) (QL.no_mk KX G (by k_is)) (QL.no_mk KX G (by k_is)) (QL.no_mk KX G (by k_is)) (QL.no_mk KX G (by k_is)) (QL.no_mk KX G (by k_is)) (QL.no_mk KX G (by k_is)) (QL.no_mk KX G (by k_is)) (QL.no_mk KX G (by k_is)) (QL.no_mk KX G (by k_is))
    case g5 => exact QL.gi_mk KX G (by k_is)
    case g60 => exact QL.gi_mk KX G (by k_is)
    case d0 =>
      refine' QL.defIn_mk KX G ?a0 ?l0 ?c0 ?k0
      (case a0 => k_is); (case l0 => k_is); (case c0 => k_is); (case k0 => k_is)
    case d1 =>
      refine' QL.defIn_mk KX G ?a1 ?l1 ?c1 ?k1
      (case a1 => k_is); (case l1 => k_is); (case c1 => k_is); (case k1 => k_is)
    case d2 =>
      refine' QL.defIn_mk KX G ?a2 ?l2 ?c2 ?k2
      (case a2 => k_is); (case l2 => k_is); (case c2 => k_is); (case k2 => k_is)
    case d3 =>
      refine' QL.defIn_mk KX G ?a3 ?l3 ?c3 ?k3
      (case a3 => k_is); (case l3 => k_is); (case c3 => k_is); (case k3 => k_is)
    case d4 =>
      refine' QL.defIn_mk KX G ?a4 ?l4 ?c4 ?k4
      (case a4 => k_is); (case l4 => k_is); (case c4 => k_is); (case k4 => k_is)
    case d5 =>
      refine' QL.defIn_mk KX G ?a5 ?l5 ?c5 ?k5
      (case a5 => k_is); (case l5 => k_is); (case c5 => k_is); (case k5 => k_is)
    case d6 =>
      refine' QL.defIn_mk KX G ?a6 ?l6 ?c6 ?k6
      (case a6 => k_is); (case l6 => k_is); (case c6 => k_is); (case k6 => k_is)
    case d7 =>
      refine' QL.defIn_mk KX G ?a7 ?l7 ?c7 ?k7
      (case a7 => k_is); (case l7 => k_is); (case c7 => k_is); (case k7 => k_is)
    case d8 =>
      refine' QL.defIn_mk KX G ?a8 ?l8 ?c8 ?k8
      (case a8 => k_is); (case l8 => k_is); (case c8 => k_is); (case k8 => k_is)
    case d9 =>
      refine' QL.defIn_mk KX G ?a9 ?l9 ?c9 ?k9
      (case a9 => k_is); (case l9 => k_is); (case c9 => k_is); (case k9 => k_is)
    case d10 =>
      refine' QL.defIn_mk KX G ?a10 ?l10 ?c10 ?k10
      (case a10 => k_is); (case l10 => k_is); (case c10 => k_is); (case k10 => k_is)
    case d11 =>
      refine' QL.defIn_mk KX G ?a11 ?l11 ?c11 ?k11
      (case a11 => k_is); (case l11 => k_is); (case c11 => k_is); (case k11 => k_is)
    case d12 =>
      refine' QL.defIn_mk KX G ?a12 ?l12 ?c12 ?k12
      (case a12 => k_is); (case l12 => k_is); (case c12 => k_is); (case k12 => k_is)
    case d13 =>
      refine' QL.defIn_mk KX G ?a13 ?l13 ?c13 ?k13
      (case a13 => k_is); (case l13 => k_is); (case c13 => k_is); (case k13 => k_is)
    case d14 =>
      refine' QL.defIn_mk KX G ?a14 ?l14 ?c14 ?k14
      (case a14 => k_is); (case l14 => k_is); (case c14 => k_is); (case k14 => k_is)
    case d15 =>
      refine' QL.defIn_mk KX G ?a15 ?l15 ?c15 ?k15
      (case a15 => k_is); (case l15 => k_is); (case c15 => k_is); (case k15 => k_is)
    case d16 =>
      refine' QL.defIn_mk KX G ?a16 ?l16 ?c16 ?k16
      (case a16 => k_is); (case l16 => k_is); (case c16 => k_is); (case k16 => k_is)
    case d17 =>
      refine' QL.defIn_mk KX G ?a17 ?l17 ?c17 ?k17
      (case a17 => k_is); (case l17 => k_is); (case c17 => k_is); (case k17 => k_is)
    case d18 =>
      refine' QL.defIn_mk KX G ?a18 ?l18 ?c18 ?k18
      (case a18 => k_is); (case l18 => k_is); (case c18 => k_is); (case k18 => k_is)
    case d19 =>
      refine' QL.defIn_mk KX G ?a19 ?l19 ?c19 ?k19
      (case a19 => k_is); (case l19 => k_is); (case c19 => k_is); (case k19 => k_is)
    case d20 =>
      refine' QL.defIn_mk KX G ?a20 ?l20 ?c20 ?k20
      (case a20 => k_is); (case l20 => k_is); (case c20 => k_is); (case k20 => k_is)
    case d21 =>
      refine' QL.defIn_mk KX G ?a21 ?l21 ?c21 ?k21
      (case a21 => k_is); (case l21 => k_is); (case c21 => k_is); (case k21 => k_is)
    case d22 =>
      refine' QL.defIn_mk KX G ?a22 ?l22 ?c22 ?k22
      (case a22 => k_is); (case l22 => k_is); (case c22 => k_is); (case k22 => k_is)
    case d23 =>
      refine' QL.defIn_mk KX G ?a23 ?l23 ?c23 ?k23
      (case a23 => k_is); (case l23 => k_is); (case c23 => k_is); (case k23 => k_is)
    case d24 =>
      refine' QL.defIn_mk KX G ?a24 ?l24 ?c24 ?k24
      (case a24 => k_is); (case l24 => k_is); (case c24 => k_is); (case k24 => k_is)
    case d25 =>
      refine' QL.defIn_mk KX G ?a25 ?l25 ?c25 ?k25
      (case a25 => k_is); (case l25 => k_is); (case c25 => k_is); (case k25 => k_is)
    case d26 =>
      refine' QL.defIn_mk KX G ?a26 ?l26 ?c26 ?k26
      (case a26 => k_is); (case l26 => k_is); (case c26 => k_is); (case k26 => k_is)
    case d27 =>
      refine' QL.defIn_mk KX G ?a27 ?l27 ?c27 ?k27
      (case a27 => k_is); (case l27 => k_is); (case c27 => k_is); (case k27 => k_is)
    case d28 =>
      refine' QL.defIn_mk KX G ?a28 ?l28 ?c28 ?k28
      (case a28 => k_is); (case l28 => k_is); (case c28 => k_is); (case k28 => k_is)
    case d29 =>
      refine' QL.defIn_mk KX G ?a29 ?l29 ?c29 ?k29
      (case a29 => k_is); (case l29 => k_is); (case c29 => k_is); (case k29 => k_is)
    case d30 =>
      refine' QL.defIn_mk KX G ?a30 ?l30 ?c30 ?k30
      (case a30 => k_is); (case l30 => k_is); (case c30 => k_is); (case k30 => k_is)
    case d31 =>
      refine' QL.defIn_mk KX G ?a31 ?l31 ?c31 ?k31
      (case a31 => k_is); (case l31 => k_is); (case c31 => k_is); (case k31 => k_is)
    case d32 =>
      refine' QL.defIn_mk KX G ?a32 ?l32 ?c32 ?k32
      (case a32 => k_is); (case l32 => k_is); (case c32 => k_is); (case k32 => k_is)
    case d33 =>
      refine' QL.defIn_mk KX G ?a33 ?l33 ?c33 ?k33
      (case a33 => k_is); (case l33 => k_is); (case c33 => k_is); (case k33 => k_is)
    case d34 =>
      refine' QL.defIn_mk KX G ?a34 ?l34 ?c34 ?k34
      (case a34 => k_is); (case l34 => k_is); (case c34 => k_is); (case k34 => k_is)
    case d35 =>
      refine' QL.defIn_mk KX G ?a35 ?l35 ?c35 ?k35
      (case a35 => k_is); (case l35 => k_is); (case c35 => k_is); (case k35 => k_is)
    case d36 =>
      refine' QL.defIn_mk KX G ?a36 ?l36 ?c36 ?k36
      (case a36 => k_is); (case l36 => k_is); (case c36 => k_is); (case k36 => k_is)
    case d37 =>
      refine' QL.defIn_mk KX G ?a37 ?l37 ?c37 ?k37
      (case a37 => k_is); (case l37 => k_is); (case c37 => k_is); (case k37 => k_is)
    case d38 =>
      refine' QL.defIn_mk KX G ?a38 ?l38 ?c38 ?k38
      (case a38 => k_is); (case l38 => k_is); (case c38 => k_is); (case k38 => k_is)
    case d39 =>
      refine' QL.defIn_mk KX G ?a39 ?l39 ?c39 ?k39
      (case a39 => k_is); (case l39 => k_is); (case c39 => k_is); (case k39 => k_is)
    case d40 =>
      refine' QL.defIn_mk KX G ?a40 ?l40 ?c40 ?k40
      (case a40 => k_is); (case l40 => k_is); (case c40 => k_is); (case k40 => k_is)
    case d41 =>
      refine' QL.defIn_mk KX G ?a41 ?l41 ?c41 ?k41
      (case a41 => k_is); (case l41 => k_is); (case c41 => k_is); (case k41 => k_is)
    case d42 =>
      refine' QL.defIn_mk KX G ?a42 ?l42 ?c42 ?k42
      (case a42 => k_is); (case l42 => k_is); (case c42 => k_is); (case k42 => k_is)
    case d43 =>
      refine' QL.defIn_mk KX G ?a43 ?l43 ?c43 ?k43
      (case a43 => k_is); (case l43 => k_is); (case c43 => k_is); (case k43 => k_is)
    case d44 =>
      refine' QL.defIn_mk KX G ?a44 ?l44 ?c44 ?k44
      (case a44 => k_is); (case l44 => k_is); (case c44 => k_is); (case k44 => k_is)
    case d45 =>
      refine' QL.defIn_mk KX G ?a45 ?l45 ?c45 ?k45
      (case a45 => k_is); (case l45 => k_is); (case c45 => k_is); (case k45 => k_is)
