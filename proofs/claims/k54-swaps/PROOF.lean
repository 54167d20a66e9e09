import PyProof.Rows.All
import Wide.All
import OpenK.AllK
import Wide.FinOn
import HandS.ForMost
import HandS.ForExc
import HandS.Evl
import HandS.Lambda
import HandS.ExcValue
import HandS.HeadHook4
import PyProof.ReprRoads
import HandS.Deep
import KE.DataFind
import HandS.SetFor
import HandS.Style
import HandS.EndOwn
import HandS.WordsExc
import KE.KExcSuper
import HandS.Wide
import HandS.WideBits
import HandS.IsInst
import KE.KExcIs
import PySem.Challenge.RW_addsup_k54_whole_swaps_join_all_grids
import HandS.EndTab
import HandS.Head0
import HandS.Head1
import HandS.Head2
import HandS.HeadEnd
set_option Elab.async false
set_option linter.all false
set_option maxRecDepth 100000
set_option maxHeartbeats 0
/-! D1: plain data, how a heap bears it, slots, outcomes. -/
namespace DL
open PySem L2 PyProof.Rows

/-- plain data -/
abbrev D := PyData

/-- the tables of code objects that lambdas of this claim use: the def that holds the lambda, the lambda's name -/
def lamDefs : List (He.Defn × Str) := [(("law", none), "law.<locals>.<lambda>"), (("_law_swaps_right", none), "_law_swaps_right.<locals>.<lambda>")]
def TbK (K : PySem.W.Frag) : List (Addr × Str) := lamDefs.map fun p => ((He.cT K p.1).2, p.2)
/-- an exception object that is held -/
def XO (c dx a : Addr) : HO := .ext fun h => ∃ (oe : Obj) (vs : Array Value), h.get? a = some oe ∧ Zc (.ref c) (some dx) oe ∧ oe.data = .fields vs
/-- signs for what is no plain data: an exception, a function -/
def excD (c : Addr) (d : D) : D := .dict [(.int c, d)]
def fnD (a : Addr) : D := .dict [(.str ("fn" : Str), .int a)]

mutual
inductive Rp (K : PySem.W.Frag) (H : Hp) : V → D → Prop
  | non : Rp K H .non .none
  | bl (b : Bool) : Rp K H (.bl b) (.bool b)
  | int (i : Int) : Rp K H (.int i) (.int i)
  | str (x : Str) : Rp K H (.str x) (.str x)
  | lst {a : Addr} {xs : List V} {ds : List D} : H a = some (.lst xs) → Rps K H xs ds → Rp K H (.ref a) (.list ds)
  | tup {a : Addr} {xs : List V} {ds : List D} : H a = some (.tup xs) → Rps K H xs ds → Rp K H (.ref a) (.tuple ds)
  | emp {a : Addr} : H a = some (.dK []) → Rp K H (.ref a) (.dict [])
  | exc {a c dx : Addr} {v : V} {d : D} : H a = some (XO c dx a) → H dx = some (.xd [(("value" : Str), v)]) → Rp K H v d → Rp K H (.ref a) (.dict [(.int c, d)])
  | fn {a : Addr} : Rp K H (.ref a) (.dict [(.str ("fn" : Str), .int a)])
inductive Rps (K : PySem.W.Frag) (H : Hp) : List V → List D → Prop
  | nil : Rps K H [] []
  | cons {v : V} {vs : List V} {d : D} {ds : List D} : Rp K H v d → Rps K H vs ds → Rps K H (v :: vs) (d :: ds)
end

section
variable {K : PySem.W.Frag} {H H' : Hp}
/-- what is tracked stays -/
def Ext (H H' : Hp) : Prop := ∀ a o, H a = some o → H' a = some o
theorem Ext.rfl (H : Hp) : Ext H H := fun _ _ h => h
theorem Ext.trans {H H1 H2 : Hp} (a : Ext H H1) (b : Ext H1 H2) : Ext H H2 := fun x o h => b x o (a x o h)
theorem ext_sqL {a : Addr} {xs : List V} (e : Ext H H') (h : SqL K H a xs) : SqL K H' a xs := Same.seq e h
theorem ext_sqT {a : Addr} {xs : List V} (e : Ext H H') (h : SqT K H a xs) : SqT K H' a xs := by
  rcases h with (h | ⟨o, h⟩) | h
  · exact .inl (.inl (e _ _ h))
  · exact .inl (.inr ⟨o, e _ _ h⟩)
  · exact .inr h
mutual
theorem Rp.ext (e : Ext H H') : ∀ {v : V} {d : D}, Rp K H v d → Rp K H' v d
  | _, _, .non => .non
  | _, _, .bl b => .bl b
  | _, _, .int i => .int i
  | _, _, .str x => .str x
  | _, _, .lst h r => .lst (e _ _ h) (Rps.ext e r)
  | _, _, .tup h r => .tup (e _ _ h) (Rps.ext e r)
  | _, _, .emp h => .emp (e _ _ h)
  | _, _, .exc h1 h2 r => .exc (e _ _ h1) (e _ _ h2) (Rp.ext e r)
  | _, _, .fn => .fn
theorem Rps.ext (e : Ext H H') : ∀ {vs : List V} {ds : List D}, Rps K H vs ds → Rps K H' vs ds
  | _, _, .nil => .nil
  | _, _, .cons h r => .cons (Rp.ext e h) (Rps.ext e r)
end
theorem Rps.length : ∀ {vs : List V} {ds : List D}, Rps K H vs ds → vs.length = ds.length
  | _, _, .nil => rfl
  | _, _, .cons _ r => by simp [Rps.length r]
theorem Rps.get : ∀ {vs : List V} {ds : List D} {i : Nat} {d : D}, Rps K H vs ds → ds[i]? = some d → ∃ v, vs[i]? = some v ∧ Rp K H v d
  | _, _, _, _, .nil, e => by simp at e
  | _, _, 0, _, .cons h _, e => by
    simp at e; subst e; exact ⟨_, rfl, h⟩
  | _, _, i + 1, d, .cons _ r, e => by
    obtain ⟨v, h1, h2⟩ := Rps.get (i := i) r (by simpa using e)
    exact ⟨v, by simpa using h1, h2⟩
theorem Rps.getV : ∀ {vs : List V} {ds : List D} {i : Nat} {v : V}, Rps K H vs ds → vs[i]? = some v → ∃ d, ds[i]? = some d ∧ Rp K H v d
  | _, _, _, _, .nil, e => by simp at e
  | _, _, 0, _, .cons h _, e => by
    simp at e; subst e; exact ⟨_, rfl, h⟩
  | _, _, i + 1, d, .cons _ r, e => by
    obtain ⟨v, h1, h2⟩ := Rps.getV (i := i) r (by simpa using e)
    exact ⟨v, by simpa using h1, h2⟩
theorem Rps.app : ∀ {vs ws : List V} {ds es : List D}, Rps K H vs ds → Rps K H ws es → Rps K H (vs ++ ws) (ds ++ es)
  | _, _, _, _, .nil, s => s
  | _, _, _, _, .cons h r, s => .cons h (Rps.app r s)
theorem Rps.one {v : V} {d : D} (h : Rp K H v d) : Rps K H [v] [d] := .cons h .nil
theorem Rps.take : ∀ {vs : List V} {ds : List D} (n : Nat), Rps K H vs ds → Rps K H (vs.take n) (ds.take n)
  | _, _, 0, _ => .nil
  | _, _, _ + 1, .nil => .nil
  | _, _, n + 1, .cons h r => .cons h (Rps.take n r)
theorem Rps.drop : ∀ {vs : List V} {ds : List D} (n : Nat), Rps K H vs ds → Rps K H (vs.drop n) (ds.drop n)
  | _, _, 0, r => r
  | _, _, _ + 1, .nil => .nil
  | _, _, n + 1, .cons _ r => Rps.drop n r
theorem Rps.rev : ∀ {vs : List V} {ds : List D}, Rps K H vs ds → Rps K H vs.reverse ds.reverse
  | _, _, .nil => .nil
  | _, _, .cons h r => by
    rw [List.reverse_cons, List.reverse_cons]
    exact (Rps.rev r).app (.one h)
theorem Rps.set {v : V} {d : D} (h : Rp K H v d) : ∀ {vs : List V} {ds : List D} (i : Nat), Rps K H vs ds → Rps K H (vs.set i v) (ds.set i d)
  | _, _, _, .nil => .nil
  | _, _, 0, .cons _ r => .cons h r
  | _, _, i + 1, .cons q r => .cons q (Rps.set h i r)

def NT (o : HO) : Prop := ∀ ps, o ≠ .tbl ps
def unt : Option HO → Option HO
  | some (.tbl _) => none
  | o => o
theorem unt_of {x : Option HO} {o : HO} (h : unt x = some o) : x = some o ∧ NT o := by
  cases x with
  | none => cases h
  | some u => cases u <;> first | (cases h; done) | (cases h; exact ⟨rfl, fun _ z => nomatch z⟩)
theorem unt_in {o : HO} (n : NT o) : unt (some o) = some o := by
  cases o <;> first | rfl | exact absurd rfl (n _)
/-- the heap without the addresses of A and without tables -/
def hid (A : List Addr) (H : Hp) : Hp := fun a => if a ∈ A then none else unt (H a)
theorem hid_of {A : List Addr} {a : Addr} {o : HO} (h : hid A H a = some o) : a ∉ A ∧ H a = some o := by
  unfold hid at h
  by_cases e : a ∈ A
  · rw [if_pos e] at h; cases h
  · rw [if_neg e] at h; exact ⟨e, (unt_of h).1⟩
theorem hid_nt {A : List Addr} {a : Addr} {o : HO} (h : hid A H a = some o) : NT o := by
  unfold hid at h
  by_cases e : a ∈ A
  · rw [if_pos e] at h; cases h
  · rw [if_neg e] at h; exact (unt_of h).2
theorem hid_in {A : List Addr} {a : Addr} {o : HO} (e : a ∉ A) (h : H a = some o) (n : NT o := by intro _ z; cases z) : hid A H a = some o := by
  unfold hid; rw [if_neg e, h]; exact unt_in n
theorem hid_ext {A : List Addr} : Ext (hid A H) H := fun _ _ h => (hid_of h).2
theorem hid_less {A B : List Addr} (h : ∀ a ∈ A, a ∈ B) : Ext (hid B H) (hid A H) := fun a _ q => by
  obtain ⟨n, e⟩ := hid_of q
  exact hid_in (fun z => n (h a z)) e (hid_nt q)
theorem Ext.back (e : Ext H H') {a : Addr} (h : H' a = none) : H a = none := by
  cases q : H a with
  | none => rfl
  | some o => rw [e a o q] at h; cases h
/-- what is tracked stays, tables grow -/
structure Gr (K : PySem.W.Frag) (H H' : Hp) : Prop where
  kp : ∀ a o, H a = some o → NT o → H' a = some o
  al : ∀ a, H' a = none → H a = none
  tb : LamX.Tabs (TbK K) H → LamX.Tabs (TbK K) H'
theorem Ext.gr {K : PySem.W.Frag} (e : Ext H H') : Gr K H H' := ⟨fun a o h _ => e a o h, fun _ h => e.back h, fun t => t.ext e⟩
theorem Gr.hid (g : Gr K H H') {A : List Addr} : Ext (hid A H) (hid A H') := fun a o q => by
  obtain ⟨n, e⟩ := hid_of q
  exact hid_in n (g.kp a o e (hid_nt q)) (hid_nt q)
theorem Gr.trans {K : PySem.W.Frag} {H H1 H2 : Hp} (a : Gr K H H1) (b : Gr K H1 H2) : Gr K H H2 := ⟨fun x o h n => b.kp x o (a.kp x o h n) n, fun x h => a.al x (b.al x h), fun t => b.tb (a.tb t)⟩

theorem tab_upd {b : Addr} {q : Str} {p : Addr} {o : HO} (n1 : ∀ ps, H p ≠ some (.tbl ps)) (n2 : ∀ φ, H p ≠ some (.ext φ)) (t : LamX.TabS H b q) : LamX.TabS (upd H p o) b q := by
  obtain ⟨ps, h1, h2, h3⟩ := t
  refine ⟨ps, by rw [upd_ne (fun z => n1 ps (by rw [← z]; exact h1))]; exact h1, h2, fun pos cv hc => ?_⟩
  obtain ⟨c, e1, e2⟩ := h3 pos cv hc
  exact ⟨c, e1, by rw [upd_ne (fun z => n2 _ (by rw [← z]; exact e2))]; exact e2⟩
theorem tab_lst {b : Addr} {q : Str} {p : Addr} {o : HO} {xs : List V} (h : H p = some (.lst xs)) (t : LamX.TabS H b q) : LamX.TabS (upd H p o) b q :=
  tab_upd (fun ps e => by rw [h] at e; cases e) (fun ps e => by rw [h] at e; cases e) t
theorem tab_none {b : Addr} {q : Str} {p : Addr} {o : HO} (h : H p = none) (t : LamX.TabS H b q) : LamX.TabS (upd H p o) b q :=
  tab_upd (fun ps e => by rw [h] at e; cases e) (fun ps e => by rw [h] at e; cases e) t

/-- one step: what P does not own stays; new owned ones were new -/
structure Stp K (H : Hp) (P : List Addr) (H' : Hp) (P' : List Addr) : Prop where
  kp : ∀ a o, a ∉ P → H a = some o → NT o → H' a = some o
  nw : ∀ p ∈ P', p ∈ P ∨ H p = none
  al : ∀ a, H' a = none → H a = none
  tb : LamX.Tabs (TbK K) H → LamX.Tabs (TbK K) H'
theorem Stp.rfl {K : PySem.W.Frag} (H : Hp) (P : List Addr) : Stp K H P H P := ⟨fun _ _ _ h _ => h, fun _ h => .inl h, fun _ h => h, fun h => h⟩
theorem Stp.trans {K : PySem.W.Frag} {H H1 H2 : Hp} {P P1 P2 : List Addr} (a : Stp K H P H1 P1) (b : Stp K H1 P1 H2 P2) : Stp K H P H2 P2 := by
  refine ⟨fun c o n h t => b.kp c o (fun z => ?_) (a.kp c o n h t) t, fun p hp => ?_, fun c h => a.al c (b.al c h), fun t => b.tb (a.tb t)⟩
  · rcases a.nw c z with q | q
    · exact n q
    · rw [q] at h; cases h
  · by_cases hP : p ∈ P
    · exact .inl hP
    · refine .inr ?_
      cases q : H p with
      | none => rfl
      | some o =>
        rcases b.nw p hp with z | z
        · rcases a.nw p z with z | z
          · exact absurd z hP
          · rw [z] at q; cases q
        · rw [a.al p z] at q; cases q
theorem Stp.gr {P : List Addr} (e : Gr K H H') : Stp K H P H' P := ⟨fun a o _ h n => e.kp a o h n, fun _ h => .inl h, e.al, e.tb⟩
theorem Stp.ext {P : List Addr} (e : Ext H H') : Stp K H P H' P := .gr e.gr
theorem Stp.toGr {P' : List Addr} (t : Stp K H [] H' P') : Gr K H H' := ⟨fun a o h n => t.kp a o (by simp) h n, t.al, t.tb⟩
theorem Stp.hid {A0 P P' : List Addr} (t : Stp K H P H' P') : Ext (hid (P ++ A0) H) (hid (P' ++ A0) H') := fun a o q => by
  obtain ⟨n, e⟩ := hid_of q
  rw [List.mem_append, not_or] at n
  refine hid_in (fun z => ?_) (t.kp a o n.1 e (hid_nt q)) (hid_nt q)
  rcases List.mem_append.mp z with z | z
  · rcases t.nw a z with z | z
    · exact n.1 z
    · rw [z] at e; cases e
  · exact n.2 z
theorem Rp.stp {A0 P P' : List Addr} {v : V} {d : D} (t : Stp K H P H' P') (h : Rp K (DL.hid (P ++ A0) H) v d) : Rp K (DL.hid (P' ++ A0) H') v d := h.ext t.hid
theorem Rps.stp {A0 P P' : List Addr} {v : List V} {d : List D} (t : Stp K H P H' P') (h : Rps K (DL.hid (P ++ A0) H) v d) : Rps K (DL.hid (P' ++ A0) H') v d := h.ext t.hid
/-- a tracked new address is none of what is hidden already -/
theorem hid_add {A : List Addr} {p : Addr} (h : H p = none) : Ext (DL.hid A H) (DL.hid (p :: A) H) := fun a o q => by
  obtain ⟨n, e⟩ := hid_of q
  refine hid_in (fun z => ?_) e (hid_nt q)
  rcases List.mem_cons.mp z with z | z
  · rw [z, h] at e; cases e
  · exact n z
end

/-! ### slots -/
/-- nst g: a list of lists of ints, all of them our own; pub 0 d: shared data; pub 1 d: data that does not hang together with the lent list at τ 0; pub 2 d: the lent list itself -/
inductive Sl where
  | pub (m : Nat) (d : D)
  | own (t : Nat) (ds : List D)
  | nst (g : List (List Int))
abbrev Sl.pu (d : D) : Sl := .pub 0 d
/-- what such a slot does not touch -/
def hs (τ : Nat → Addr) (m : Nat) (A : List Addr) : List Addr := if m = 1 then τ 0 :: A else A
theorem Ext.hs {H H' : Hp} {A B : List Addr} (e : Ext (hid A H) (hid B H')) {τ : Nat → Addr} {m : Nat} : Ext (hid (DL.hs τ m A) H) (hid (DL.hs τ m B) H') := by
  unfold DL.hs
  by_cases hm : m = 1
  · rw [if_pos hm, if_pos hm]
    intro a o q
    obtain ⟨n, z⟩ := hid_of q
    have z2 := hid_of (e a o (hid_in (fun w => n (List.mem_cons_of_mem _ w)) z (hid_nt q)))
    refine hid_in (fun w => ?_) z2.2 (hid_nt q)
    rcases List.mem_cons.mp w with w | w
    · exact n (by rw [w]; exact List.mem_cons_self)
    · exact z2.1 w
  · rw [if_neg hm, if_neg hm]
    exact e
theorem hs_mem {τ : Nat → Addr} {m : Nat} {A : List Addr} {a : Addr} (h : a ∈ A) : a ∈ hs τ m A := by
  unfold hs
  by_cases hm : m = 1
  · rw [if_pos hm]; exact List.mem_cons_of_mem _ h
  · rw [if_neg hm]; exact h
theorem hs_eq {H H' : Hp} {A B : List Addr} (e : hid A H = hid B H') {τ : Nat → Addr} {m : Nat} : hid (hs τ m A) H = hid (hs τ m B) H' := by
  unfold hs
  by_cases hm : m = 1
  · rw [if_pos hm, if_pos hm]
    funext a
    by_cases ha : a = τ 0
    · unfold hid
      rw [if_pos (by rw [ha]; exact List.mem_cons_self), if_pos (by rw [ha]; exact List.mem_cons_self)]
    · have z := congrFun e a
      unfold hid at z ⊢
      have q : ∀ C : List Addr, (a ∈ τ 0 :: C) = (a ∈ C) := fun C => propext ⟨fun w => (List.mem_cons.mp w).elim (fun w => absurd w ha) id, List.mem_cons_of_mem _⟩
      simp only [q]
      exact z
  · rw [if_neg hm, if_neg hm]
    exact e
theorem hs_less {τ : Nat → Addr} {m : Nat} {A : List Addr} {H : Hp} : Ext (hid (hs τ m A) H) (hid A H) := hid_less fun a z => by
  unfold hs
  by_cases hm : m = 1
  · rw [if_pos hm]; exact List.mem_cons_of_mem _ z
  · rw [if_neg hm]; exact z
abbrev Env := List (Option Sl)
def noN (ρ : Env) : Bool := ρ.all fun o => match o with
  | some (.nst _) => false
  | _ => true
theorem noN_of {ρ : Env} (h : noN ρ = true) {i : Nat} {g : List (List Int)} (q : ρ[i]? = some (some (.nst g))) : False := by
  have z := List.all_eq_true.mp h _ (List.mem_of_getElem? q)
  cases z
/-- a list at p of the lists at qs: a grid of ints -/
structure Nst (H : Hp) (p : Addr) (qs : List Addr) (g : List (List Int)) : Prop where
  top : H p = some (.lst (qs.map V.ref))
  nd : (p :: qs).Nodup
  len : qs.length = g.length
  row : ∀ (j : Nat) (q : Addr) (r : List Int), qs[j]? = some q → g[j]? = some r → H q = some (.lst (r.map V.int))
theorem Nst.gr {H H' : Hp} {p : Addr} {qs : List Addr} {g : List (List Int)} (h : Nst H p qs g) (k : ∀ a xs, a ∈ p :: qs → H a = some (.lst xs) → H' a = some (.lst xs)) : Nst H' p qs g :=
  ⟨k _ _ List.mem_cons_self h.top, h.nd, h.len, fun j q r e1 e2 => k _ _ (List.mem_cons_of_mem _ (List.mem_of_getElem? e1)) (h.row j q r e1 e2)⟩
def NsAt (H : Hp) (σ : L2.St) (P : List Addr) (i : Nat) (g : List (List Int)) : Prop := ∃ p qs, σ[i]? = some (some (.ref p)) ∧ Nst H p qs g ∧ ∀ a ∈ p :: qs, a ∈ P
theorem NsAt.gr {H H' : Hp} {σ σ' : L2.St} {P : List Addr} {i : Nat} {g : List (List Int)} (h : NsAt H σ P i g) (e : σ'[i]? = σ[i]?) (k : ∀ a xs, a ∈ P → H a = some (.lst xs) → H' a = some (.lst xs)) : NsAt H' σ' P i g := by
  obtain ⟨p, qs, h1, h2, h3⟩ := h
  exact ⟨p, qs, by rw [e]; exact h1, h2.gr fun a xs m z => k a xs (h3 a m) z, h3⟩

structure SRep (K : PySem.W.Frag) (τ : Nat → Addr) (A0 : List Addr) (H : Hp) (σ : L2.St) (ρ : Env) (P : List Addr) : Prop where
  pu : ∀ (i m : Nat) (d : D), ρ[i]? = some (some (.pub m d)) → ∃ v, σ[i]? = some (some v) ∧ Rp K (hid (hs τ m (P ++ A0)) H) v d ∧ (m = 2 → v = .ref (τ 0))
  own : ∀ (i t : Nat) (ds : List D), ρ[i]? = some (some (.own t ds)) → ∃ p xs, σ[i]? = some (some (.ref p)) ∧ p ∈ P ∧ H p = some (.lst xs) ∧ Rps K (hid (P ++ A0) H) xs ds ∧ (t = 0 ∨ p = τ t)
  inj : ∀ (i j t u : Nat) (ds es : List D) (p : Addr), i ≠ j → ρ[i]? = some (some (.own t ds)) → ρ[j]? = some (some (.own u es)) → σ[i]? = some (some (.ref p)) → σ[j]? ≠ some (some (.ref p))
  tr : ∀ a ∈ P ++ A0, H a ≠ none
  len : σ.length = ρ.length
  dj : ∀ p ∈ P, p ∉ A0
  tb : LamX.Tabs (TbK K) H
  ns : ∀ (i : Nat) (g : List (List Int)), ρ[i]? = some (some (.nst g)) → NsAt H σ P i g ∧ (∀ (j : Nat) (h : List (List Int)), ρ[j]? = some (some (.nst h)) → j = i) ∧ ∀ (j t : Nat) (ds : List D), ρ[j]? ≠ some (some (.own t ds))

/-- a value: shared, or a new list that nobody has yet -/
inductive W where
  | pu (d : D)
  | frs (ds : List D)
def W.d : W → D
  | .pu d => d
  | .frs ds => .list ds

/-- the outcome of an expression -/
inductive RE where
  | ok (w : W) (ρ : Env)
  | err (c : Addr) (d : D)
  | st
/-- what follows an expression of that outcome -/
def CDE (K : PySem.W.Frag) (E : XK) (τ : Nat → Addr) (A0 : List Addr) (H : Hp) (P : List Addr) (σ : L2.St) (o : RE) (Q : VK) : Prop :=
  match o with
  | .ok (.pu d) ρ' => ∀ v H' P', Stp K H P H' P' → SRep K τ A0 H' σ ρ' P' → Rp K (hid (P' ++ A0) H') v d → Q v H'
  | .ok (.frs ds) ρ' => ∀ p xs H' P', Stp K H P H' P' → H p = none → p ∉ P' → p ∉ A0 → SRep K τ (p :: A0) H' σ ρ' P' → H' p = some (.lst xs) → Rps K (hid (P' ++ p :: A0) H') xs ds → Q (.ref p) H'
  | .err c d => ∀ dx v H' P', Stp K H P H' P' → (H dx = none ∧ H' dx = some (.xd [(("value" : Str), v)])) → Rp K (hid (P' ++ A0) H') v d → E (.ref c) (some dx) H'
  | .st => False
def tDE (K : PySem.W.Frag) (E : XK) (f : Env → RE) : TE := fun σ H Q => ∃ τ A0 P ρ, SRep K τ A0 H σ ρ P ∧ CDE K E τ A0 H P σ (f ρ) Q
structure DE (X : Cx) (E : XK) (e : Expr) (f : Env → RE) : Prop where
  pe : PE X e (tDE X.K E f)

theorem SRep.puD {K : PySem.W.Frag} {τ : Nat → Addr} {A0 P : List Addr} {H : Hp} {σ : L2.St} {ρ : Env} (S : SRep K τ A0 H σ ρ P) {i m : Nat} {d : D} (q : ρ[i]? = some (some (.pub m d))) : ∃ v, σ[i]? = some (some v) ∧ Rp K (hid (P ++ A0) H) v d := by
  obtain ⟨v, h1, h2, _⟩ := S.pu i m d q
  exact ⟨v, h1, h2.ext hs_less⟩
section
variable {K : PySem.W.Frag} {E : XK} {τ : Nat → Addr} {A0 P : List Addr} {H : Hp} {σ : L2.St} {ρ : Env} {Q : VK}
theorem hid_swap {A B : List Addr} (h : ∀ a, a ∈ A ↔ a ∈ B) : hid A H = hid B H := by
  funext a
  unfold hid
  by_cases e : a ∈ A
  · rw [if_pos e, if_pos ((h a).mp e)]
  · rw [if_neg e, if_neg (fun z => e ((h a).mpr z))]
theorem SRep.less {B0 : List Addr} (h : SRep K τ B0 H σ ρ P) (hs : ∀ a ∈ A0, a ∈ B0) : SRep K τ A0 H σ ρ P := by
  have e : Ext (hid (P ++ B0) H) (hid (P ++ A0) H) := hid_less fun a z => by
    rcases List.mem_append.mp z with z | z
    · exact List.mem_append_left _ z
    · exact List.mem_append_right _ (hs a z)
  refine ⟨fun i m d q => ?_, fun i t ds q => ?_, h.inj, fun a z => ?_, h.len, fun p hp z => h.dj p hp (hs p z), h.tb, h.ns⟩
  · obtain ⟨v, h1, h2, h3⟩ := h.pu i m d q
    exact ⟨v, h1, h2.ext e.hs, h3⟩
  · obtain ⟨p, xs, h1, h2, h3, h4, h5⟩ := h.own i t ds q
    exact ⟨p, xs, h1, h2, h3, h4.ext e, h5⟩
  · rcases List.mem_append.mp z with z | z
    · exact h.tr a (List.mem_append_left _ z)
    · exact h.tr a (List.mem_append_right _ (hs a z))
/-- a slot of plain data, the heap having grown -/
theorem SRep.grow {H' : Hp} (h : SRep K τ A0 H σ ρ P) (e : Gr K H H') : SRep K τ A0 H' σ ρ P := by
  have st : Stp K H P H' P := Stp.gr e
  refine ⟨fun i m d q => ?_, fun i t ds q => ?_, h.inj, fun a z n => h.tr a z (e.al a n), h.len, h.dj, e.tb h.tb, fun i g q => ⟨(h.ns i g q).1.gr rfl fun a xs _ z => e.kp a _ z (fun _ w => nomatch w), (h.ns i g q).2⟩⟩
  · obtain ⟨v, h1, h2, h3⟩ := h.pu i m d q
    exact ⟨v, h1, h2.ext st.hid.hs, h3⟩
  · obtain ⟨p, xs, h1, h2, h3, h4, h5⟩ := h.own i t ds q
    exact ⟨p, xs, h1, h2, e.kp _ _ h3 (fun _ z => nomatch z), h4.stp st, h5⟩
/-- .. one more address hidden that was new -/
theorem SRep.addHid {p : Addr} (h : SRep K τ A0 H σ ρ P) (hp : H p = none) {H' : Hp} (e : Gr K H H') (hp' : H' p ≠ none) : SRep K τ (p :: A0) H' σ ρ P := by
  have g := h.grow e
  have x : Ext (hid (P ++ A0) H) (hid (P ++ p :: A0) H') := fun a o q => by
    obtain ⟨n, q1⟩ := hid_of q
    rw [List.mem_append, not_or] at n
    refine hid_in (fun z => ?_) (e.kp a o q1 (hid_nt q)) (hid_nt q)
    rcases List.mem_append.mp z with z | z
    · exact n.1 z
    · rcases List.mem_cons.mp z with z | z
      · rw [z, hp] at q1; cases q1
      · exact n.2 z
  refine ⟨fun i m d q => ?_, fun i t ds q => ?_, h.inj, fun a z => ?_, h.len, fun q hq z => ?_, g.tb, g.ns⟩
  rotate_right
  · rcases List.mem_cons.mp z with z | z
    · exact h.tr q (List.mem_append_left _ hq) (by rw [z]; exact hp)
    · exact h.dj q hq z
  · obtain ⟨v, h1, h2, h3⟩ := h.pu i m d q
    exact ⟨v, h1, h2.ext x.hs, h3⟩
  · obtain ⟨p, xs, h1, h2, h3, h4, h5⟩ := h.own i t ds q
    exact ⟨p, xs, h1, h2, e.kp _ _ h3 (fun _ z => nomatch z), h4.ext x, h5⟩
  · rcases List.mem_append.mp z with z | z
    · exact g.tr a (List.mem_append_left _ z)
    · rcases List.mem_cons.mp z with z | z
      · rw [z]; exact hp'
      · exact g.tr a (List.mem_append_right _ z)

/-- the operand as shared data, whatever it was -/
theorem CDE.toD {o : RE} {R : VK}
    (h : match o with
      | .ok w ρ' => ∀ v H' P', Stp K H P H' P' → SRep K τ A0 H' σ ρ' P' → Rp K (hid (P' ++ A0) H') v w.d → R v H'
      | .err c d => ∀ dx v H' P', Stp K H P H' P' → (H dx = none ∧ H' dx = some (.xd [(("value" : Str), v)])) → Rp K (hid (P' ++ A0) H') v d → E (.ref c) (some dx) H'
      | .st => False) : CDE K E τ A0 H P σ o R := by
  cases o with
  | ok w ρ' =>
    cases w with
    | pu d => exact h
    | frs ds =>
      intro p xs H' P' t hn hp hA S hl hr
      have x : Ext (hid (P' ++ p :: A0) H') (hid (P' ++ A0) H') := hid_less fun a z => by
        rcases List.mem_append.mp z with z | z
        · exact List.mem_append_left _ z
        · exact List.mem_append_right _ (List.mem_cons_of_mem _ z)
      refine h (.ref p) H' P' t (S.less fun a z => List.mem_cons_of_mem _ z) (.lst (hid_in (fun z => ?_) hl) (hr.ext x))
      rcases List.mem_append.mp z with z | z
      · exact hp z
      · exact hA z
  | err c d => exact h
  | st => exact h
end
end DL
/-! D2: expressions. -/
namespace DL
open PySem L2 PyProof.Rows

def bndE (fa : Env → RE) (k : D → Env → RE) : Env → RE := fun ρ => match fa ρ with
  | .ok w ρ1 => k w.d ρ1
  | .err c d => .err c d
  | .st => .st
def resW (o : Option W) : Env → RE := fun ρ => match o with
  | some w => .ok w ρ
  | none => .st
/-- by values: what an operation gives -/
def GiveW (K : PySem.W.Frag) (A : List Addr) (H : Hp) (w : W) (Q : VK) : Prop := match w with
  | .pu d => ∀ v H', Ext H H' → Rp K (hid A H') v d → Q v H'
  | .frs ds => ∀ p xs H', Ext H H' → H p = none → H' p = some (.lst xs) → Rps K (hid (p :: A) H') xs ds → Q (.ref p) H'

section
variable {K : PySem.W.Frag} {E : XK} {τ : Nat → Addr} {A0 P : List Addr} {H : Hp} {σ : L2.St} {ρ : Env} {Q : VK}
theorem SRep.fresh (S : SRep K τ A0 H σ ρ P) {p : Addr} (h : H p = none) : p ∉ P ∧ p ∉ A0 :=
  ⟨fun z => S.tr p (List.mem_append_left _ z) h, fun z => S.tr p (List.mem_append_right _ z) h⟩
theorem giveW {w : W} (S : SRep K τ A0 H σ ρ P) (h : CDE K E τ A0 H P σ (.ok w ρ) Q) : GiveW K (P ++ A0) H w Q := by
  cases w with
  | pu d => exact fun v H' e r => h v H' P (Stp.ext e) (S.grow e.gr) r
  | frs ds =>
    intro p xs H' e hn hl hr
    obtain ⟨n1, n2⟩ := S.fresh hn
    have q : hid (P ++ p :: A0) H' = hid (p :: (P ++ A0)) H' := hid_swap fun a => by
      simp only [List.mem_append, List.mem_cons]
      constructor
      · rintro (z | z | z)
        · exact .inr (.inl z)
        · exact .inl z
        · exact .inr (.inr z)
      · rintro (z | z | z)
        · exact .inr (.inl z)
        · exact .inl z
        · exact .inr (.inr z)
    exact h p xs H' P (Stp.ext e) hn n1 n2 (S.addHid hn e.gr (by rw [hl]; exact fun z => nomatch z)) hl (by rw [q]; exact hr)
theorem CDE.stp {o : RE} {H' : Hp} {P' : List Addr} (t : Stp K H P H' P') (h : CDE K E τ A0 H P σ o Q) : CDE K E τ A0 H' P' σ o Q := by
  cases o with
  | ok w ρ' =>
    cases w with
    | pu d => exact fun v H2 P2 t2 S r => h v H2 P2 (t.trans t2) S r
    | frs ds => exact fun p xs H2 P2 t2 hn n1 n2 S hl hr => h p xs H2 P2 (t.trans t2) (t.al p hn) n1 n2 S hl hr
  | err c d => exact fun dx v H2 P2 t2 hx hr => h dx v H2 P2 (t.trans t2) ⟨t.al _ hx.1, hx.2⟩ hr
  | st => exact h
theorem CDE.bnd {fa : Env → RE} {k : D → Env → RE} (h : CDE K E τ A0 H P σ (bndE fa k ρ) Q) :
    CDE K E τ A0 H P σ (fa ρ) fun v H' => ∃ P' ρ' d, Stp K H P H' P' ∧ SRep K τ A0 H' σ ρ' P' ∧ Rp K (hid (P' ++ A0) H') v d ∧ CDE K E τ A0 H' P' σ (k d ρ') Q := by
  refine CDE.toD ?_
  unfold bndE at h
  cases q : fa ρ with
  | ok w ρ' =>
    rw [q] at h
    exact fun v H' P' t S r => ⟨P', ρ', w.d, t, S, r, CDE.stp t h⟩
  | err c d =>
    rw [q] at h
    exact h
  | st =>
    rw [q] at h
    exact h
/-- a value is had: go on -/
theorem CDE.ret {w : W} {H' : Hp} (S : SRep K τ A0 H σ ρ P) (h : CDE K E τ A0 H P σ (.ok w ρ) Q) : GiveW K (P ++ A0) H w Q := giveW S h
theorem tde_bnd {fa : Env → RE} {k : D → Env → RE} {R : VK} (h : tDE K E (bndE fa k) σ H Q)
    (hk : ∀ v H' τ A0 P' ρ' d, SRep K τ A0 H' σ ρ' P' → Rp K (hid (P' ++ A0) H') v d → CDE K E τ A0 H' P' σ (k d ρ') Q → R v H') : tDE K E fa σ H R := by
  obtain ⟨τ, A0, P, ρ, S, c⟩ := h
  refine ⟨τ, A0, P, ρ, S, ?_⟩
  have c2 := CDE.bnd c
  revert c2
  cases q : fa ρ with
  | ok w ρ' =>
    cases w with
    | pu d => exact fun c2 v H' P' t S' r => let ⟨P2, ρ2, d2, t2, S2, r2, z⟩ := c2 v H' P' t S' r; hk v H' τ A0 P2 ρ2 d2 S2 r2 z
    | frs ds => exact fun c2 p xs H' P' t hn n1 n2 S' hl hr => let ⟨P2, ρ2, d2, t2, S2, r2, z⟩ := c2 p xs H' P' t hn n1 n2 S' hl hr; hk _ H' τ A0 P2 ρ2 d2 S2 r2 z
  | err c d => exact fun c2 => c2
  | st => exact fun c2 => c2

/-! ### operations on two, one values -/
def Op2R (K : PySem.W.Frag) (r : R2) (g : D → D → Option W) : Prop := ∀ (A : List Addr) (H : Hp) (x y : V) (d1 d2 : D) (w : W) (Q : VK), (∀ a ∈ A, H a ≠ none) → Rp K (hid A H) x d1 → Rp K (hid A H) y d2 → g d1 d2 = some w → GiveW K A H w Q → r x y H Q
def Op1R (K : PySem.W.Frag) (r : V → Hp → VK → Prop) (g : D → Option W) : Prop := ∀ (A : List Addr) (H : Hp) (x : V) (d1 : D) (w : W) (Q : VK), (∀ a ∈ A, H a ≠ none) → Rp K (hid A H) x d1 → g d1 = some w → GiveW K A H w Q → r x H Q
def fOp2 (g : D → D → Option W) (fa fb : Env → RE) : Env → RE := bndE fa fun d1 => bndE fb fun d2 => resW (g d1 d2)
def fOp1 (g : D → Option W) (fa : Env → RE) : Env → RE := bndE fa fun d1 => resW (g d1)
theorem op2_of {r : R2} {g : D → D → Option W} {fa fb : Env → RE} (hr : Op2R K r g) (h : tDE K E (fOp2 g fa fb) σ H Q) : tOp r (tDE K E fa) (tDE K E fb) σ H Q := by
  refine tde_bnd h fun v1 H1 τ A0 P1 ρ1 d1 S1 r1 c1 => ⟨τ, A0, P1, ρ1, S1, ?_⟩
  have c2 := CDE.bnd c1
  revert c2
  have fin : ∀ {v2 H2 P2 ρ2 d2}, Stp K H1 P1 H2 P2 → SRep K τ A0 H2 σ ρ2 P2 → Rp K (hid (P2 ++ A0) H2) v2 d2 → CDE K E τ A0 H2 P2 σ (resW (g d1 d2) ρ2) Q → r v1 v2 H2 Q := fun {v2 H2 P2 ρ2 d2} t S2 r2 z => by
    unfold resW at z
    cases q : g d1 d2 with
    | some w =>
      rw [q] at z
      exact hr (P2 ++ A0) H2 v1 v2 d1 d2 w Q S2.tr (r1.stp t) r2 q (giveW S2 z)
    | none =>
      rw [q] at z
      exact z.elim
  cases q : fb ρ1 with
  | ok w ρ' =>
    cases w with
    | pu d => exact fun c2 v H' P' t S' r => let ⟨P2, ρ2, d2, t2, S2, r2, z⟩ := c2 v H' P' t S' r; fin t2 S2 r2 z
    | frs ds => exact fun c2 p xs H' P' t hn n1 n2 S' hl hr => let ⟨P2, ρ2, d2, t2, S2, r2, z⟩ := c2 p xs H' P' t hn n1 n2 S' hl hr; fin t2 S2 r2 z
  | err c d => exact fun c2 => c2
  | st => exact fun c2 => c2
theorem op1_of {r : V → Hp → VK → Prop} {g : D → Option W} {fa : Env → RE} (hr : Op1R K r g) (h : tDE K E (fOp1 g fa) σ H Q) : tUn r (tDE K E fa) σ H Q := by
  refine tde_bnd h fun v1 H1 τ A0 P1 ρ1 d1 S1 r1 z => ?_
  unfold resW at z
  cases q : g d1 with
  | some w =>
    rw [q] at z
    exact hr (P1 ++ A0) H1 v1 d1 w Q S1.tr r1 q (giveW S1 z)
  | none =>
    rw [q] at z
    exact z.elim
end
theorem PE.weak {X : Cx} {e : Expr} {t u : TE} (h : PE X e t) (k : ∀ σ H Q, u σ H Q → t σ H Q) : PE X e u := ⟨fun pins s σ H Q I q => h.run pins s σ H Q I (k σ H Q q)⟩
theorem PT.weak {X : Cx} {e : Expr} {t u : TT} (h : PT X e t) (k : ∀ σ H Q, u σ H Q → t σ H Q) : PT X e u := ⟨fun pins s σ H Q I q => h.run pins s σ H Q I (k σ H Q q)⟩
theorem PA.weak {X : Cx} {e : List Expr} {t u : TA} (h : PA X e t) (k : ∀ σ H Q, u σ H Q → t σ H Q) : PA X e u := ⟨fun pos pins s σ H Q I q => h.run pos pins s σ H Q I (k σ H Q q)⟩
theorem PS.weak {X : Cx} {e : Stmt} {t u : TS} (h : PS X e t) (k : ∀ D σ H, u D σ H → t D σ H) : PS X e u := ⟨fun pins s σ H D I q => h.run pins s σ H D I (k D σ H q)⟩
theorem PSs.weak {X : Cx} {e : List Stmt} {t u : TS} (h : PSs X e t) (k : ∀ D σ H, u D σ H → t D σ H) : PSs X e u := ⟨fun pins s σ H D I q => h.run pins s σ H D I (k D σ H q)⟩

section
variable {X : Cx} {E : XK} {a b : Expr} {fa fb : Env → RE} {pos : Pos}
theorem de_bin {op : Operator} {r : R2} {g : D → D → Option W} (ho : OpR X (binaryOp op) r) (hr : Op2R X.K r g) (ha : DE X E a fa) (hb : DE X E b fb) : DE X E (.BinOp a op b pos) (fOp2 g fa fb) :=
  ⟨PE.weak (pe_op ho ha.pe hb.pe) fun _ _ _ h => op2_of hr h⟩
theorem de_cmp {op : CmpOp} {r : R2} {g : D → D → Option W} (ho : OpR X (compareOp op) r) (hr : Op2R X.K r g) (ha : DE X E a fa) (hb : DE X E b fb) (hm : behindInMarks op b = false) : DE X E (.Compare a [op] [b] pos) (fOp2 g fa fb) :=
  ⟨PE.weak (pe_cmpR ho ha.pe hb.pe hm) fun _ _ _ h => op2_of hr h⟩
theorem de_un {op : UnaryOp} {r : V → Hp → VK → Prop} {g : D → Option W} (ho : UnR X (unaryOp op) r) (hr : Op1R X.K r g) (ha : DE X E a fa) : DE X E (.UnaryOp op a pos) (fOp1 g fa) :=
  ⟨PE.weak (pe_un ho ha.pe) fun _ _ _ h => op1_of hr h⟩
theorem de_ix {r : R2} {g : D → D → Option W} (ho : IxR X r) (hr : Op2R X.K r g) (ha : DE X E a fa) (hb : DE X E b fb) (hs : PlainIx b) : DE X E (.Subscript a b pos) (fOp2 g fa fb) :=
  ⟨PE.weak (pe_ix ho ha.pe hb.pe hs) fun _ _ _ h => op2_of hr h⟩
end

/-! ### constants, names -/
def fC (d : D) : Env → RE := fun ρ => .ok (.pu d) ρ
section
variable {X : Cx} {E : XK} {pos : Pos}
theorem de_const {e : Expr} {v : V} {d : D} (h : PE X e (tC v)) (r : ∀ H, Rp X.K H v d) : DE X E e (fC d) :=
  ⟨PE.weak h fun σ H Q ⟨τ, A0, P, ρ, S, c⟩ => c v H P (Stp.rfl H P) S (r _)⟩
theorem de_int {i j} : DE X E (.Constant (.int i) j pos) (fC (.int i)) := de_const pe_int fun _ => .int i
theorem de_bl {b j} : DE X E (.Constant (.bool b) j pos) (fC (.bool b)) := de_const pe_bl fun _ => .bl b
theorem de_non {j} : DE X E (.Constant .none j pos) (fC .none) := de_const pe_non fun _ => .non
theorem de_str {x j} : DE X E (.Constant (.str x) j pos) (fC (.str x)) := de_const pe_str fun _ => .str x
/-- a name: an own list is given away -/
def fVar (i : Nat) : Env → RE := fun ρ => match ρ[i]? with
  | some (some (.pub _ d)) => .ok (.pu d) ρ
  | some (some (.own t ds)) => .ok (.pu (.list ds)) (ρ.set i (some (.pu (.list ds))))
  | _ => .st
end
section
variable {K : PySem.W.Frag} {τ : Nat → Addr} {A0 P : List Addr} {H : Hp} {σ : L2.St} {ρ : Env}
/-- an own list is shared from now on -/
theorem SRep.share (S : SRep K τ A0 H σ ρ P) {i t : Nat} {ds : List D} (h : ρ[i]? = some (some (.own t ds))) :
    ∃ p P', σ[i]? = some (some (.ref p)) ∧ (∀ a ∈ P', a ∈ P) ∧ SRep K τ A0 H σ (ρ.set i (some (.pu (.list ds)))) P' ∧ Rp K (hid (P' ++ A0) H) (.ref p) (.list ds) := by
  obtain ⟨p, xs, h1, h2, h3, h4, h5⟩ := S.own i t ds h
  have hA : p ∉ A0 := S.dj p h2
  have hi : i < ρ.length := (List.getElem?_eq_some_iff.mp h).1
  have e : Ext (hid (P ++ A0) H) (hid (P.filter (fun a => decide (a ≠ p)) ++ A0) H) := hid_less fun a z => by
    rcases List.mem_append.mp z with z | z
    · exact List.mem_append_left _ (List.mem_filter.mp z).1
    · exact List.mem_append_right _ z
  have np : p ∉ P.filter (fun a => decide (a ≠ p)) ++ A0 := fun z => by
    rcases List.mem_append.mp z with z | z
    · exact (of_decide_eq_true (List.mem_filter.mp z).2) rfl
    · exact hA z
  have rp : Rp K (hid (P.filter (fun a => decide (a ≠ p)) ++ A0) H) (.ref p) (.list ds) := .lst (hid_in np h3) (h4.ext e)
  refine ⟨p, P.filter (fun a => decide (a ≠ p)), h1, fun a z => (List.mem_filter.mp z).1, ⟨fun j m d q => ?_, fun j u es q => ?_, fun j k u u2 es fs q hjk e1 e2 e3 => ?_, fun a z => ?_, by simpa using S.len, fun q z => S.dj q (List.mem_filter.mp z).1, S.tb, fun j g q => ?_⟩, rp⟩
  rotate_right
  · by_cases hj : i = j
    · subst hj
      rw [List.getElem?_set_self hi] at q
      cases q
    · rw [List.getElem?_set_ne hj] at q
      exact absurd h ((S.ns j g q).2.2 i t ds)
  · by_cases hj : i = j
    · subst hj
      rw [List.getElem?_set_self hi] at q
      cases q
      exact ⟨_, h1, rp, fun z => nomatch z⟩
    · rw [List.getElem?_set_ne hj] at q
      obtain ⟨v, q1, q2, q3⟩ := S.pu j m d q
      exact ⟨v, q1, q2.ext e.hs, q3⟩
  · by_cases hj : i = j
    · subst hj
      rw [List.getElem?_set_self hi] at q
      cases q
    · rw [List.getElem?_set_ne hj] at q
      obtain ⟨p2, ys, q1, q2, q3, q4, q5⟩ := S.own j u es q
      refine ⟨p2, ys, q1, List.mem_filter.mpr ⟨q2, decide_eq_true fun z => ?_⟩, q3, q4.ext e, q5⟩
      subst z
      exact S.inj i j t u ds es p2 hj h q h1 q1
  · have g : ∀ {m u : Nat} {gs : List D}, (ρ.set i (some (.pu (.list ds))))[m]? = some (some (.own u gs)) → ρ[m]? = some (some (.own u gs)) := fun {m u gs} z => by
      by_cases hm : i = m
      · subst hm
        rw [List.getElem?_set_self hi] at z
        cases z
      · rw [List.getElem?_set_ne hm] at z
        exact z
    exact S.inj j k u u2 es fs q hjk (g e1) (g e2) e3
  · rcases List.mem_append.mp z with z | z
    · exact S.tr a (List.mem_append_left _ (List.mem_filter.mp z).1)
    · exact S.tr a (List.mem_append_right _ z)
end
section
variable {X : Cx} {E : XK} {pos : Pos}
theorem de_var {i : Nat} {e : Expr} (h : PE X e (tVar i)) : DE X E e (fVar i) := by
  refine ⟨PE.weak h fun σ H Q ⟨τ, A0, P, ρ, S, c⟩ => ?_⟩
  unfold fVar at c
  split at c
  · rename_i m d q
    obtain ⟨v, h1, h2⟩ := S.puD q
    exact ⟨v, h1, c v H P (Stp.rfl H P) S h2⟩
  · rename_i ds q
    obtain ⟨p, P', h1, h2, h3, h4⟩ := S.share q
    exact ⟨_, h1, c _ H P' ⟨fun _ _ _ z _ => z, fun a z => .inl (h2 a z), fun _ z => z, fun z => z⟩ h3 h4⟩
  · exact c.elim
end

/-! ### tests: and, or, not -/
/-- a test by its value -/
structure DT (X : Cx) (E : XK) (e : Expr) (f : Env → RE) : Prop where
  pt : PT X e (tTest (tDE X.K E f))
def fBoth (fa : Env → RE) (ft ff : Env → RE) : Env → RE := bndE fa fun d => match d with
  | .bool true => ft
  | .bool false => ff
  | _ => fun _ => .st
def fAnd (fa fb : Env → RE) : Env → RE := fBoth fa fb (fC (.bool false))
def fOr (fa fb : Env → RE) : Env → RE := fBoth fa (fC (.bool true)) fb
def fNot (fa : Env → RE) : Env → RE := fBoth fa (fC (.bool false)) (fC (.bool true))
section
variable {K : PySem.W.Frag} {E : XK} {σ : L2.St} {H : Hp} {Q : VK}
theorem rp_bool {v : V} {b : Bool} (h : Rp K H v (.bool b)) : v = .bl b := by cases h; rfl
/-- by the first one's truth -/
theorem both_of {fa ft ff : Env → RE} {Rt Rf : Hp → Prop} (h : tDE K E (fBoth fa ft ff) σ H Q) (ht : ∀ H', tDE K E ft σ H' Q → Rt H') (hf : ∀ H', tDE K E ff σ H' Q → Rf H') :
    tDE K E fa σ H fun v H' => ∃ c, v = .bl c ∧ if c = true then Rt H' else Rf H' := by
  refine tde_bnd h fun v H' τ A0 P' ρ' d S r c => ?_
  cases d with
  | bool b =>
    refine ⟨b, rp_bool r, ?_⟩
    cases b with
    | true => exact ht H' ⟨τ, A0, P', ρ', S, c⟩
    | false => exact hf H' ⟨τ, A0, P', ρ', S, c⟩
  | _ => exact c.elim
theorem tde_c {v : V} {d : D} (r : ∀ H, Rp K H v d) (h : tDE K E (fC d) σ H Q) : Q v H := by
  obtain ⟨τ, A0, P, ρ, S, c⟩ := h
  exact c v H P (Stp.rfl H P) S (r _)
theorem tde_mono {f : Env → RE} {Q R : VK} (h : tDE K E f σ H Q) (k : ∀ v H', Q v H' → R v H') : tDE K E f σ H R := by
  obtain ⟨τ, A0, P, ρ, S, c⟩ := h
  refine ⟨τ, A0, P, ρ, S, ?_⟩
  revert c
  cases f ρ with
  | ok w ρ' =>
    cases w with
    | pu d => exact fun c v H' P' t S r => k _ _ (c v H' P' t S r)
    | frs ds => exact fun c p xs H' P' t hn n1 n2 S hl hr => k _ _ (c p xs H' P' t hn n1 n2 S hl hr)
  | err c d => exact fun c => c
  | st => exact fun c => c
end
section
variable {X : Cx} {E : XK} {a b : Expr} {rest : List Expr} {fa fb : Env → RE} {pos : Pos}
/-- .. as values -/
theorem de_one {op} (h : DE X E a fa) : DE X E (.BoolOp op [a] pos) fa := ⟨pe_one h.pe⟩
theorem de_and (ha : DE X E a fa) (hb : DE X E (.BoolOp .And (b :: rest) pos) fb) : DE X E (.BoolOp .And (a :: b :: rest) pos) (fAnd fa fb) :=
  ⟨PE.weak (pe_and ha.pe hb.pe) fun σ H Q h => both_of h (fun _ z => z) fun _ z => tde_c (fun _ => .bl false) z⟩
theorem de_or (ha : DE X E a fa) (hb : DE X E (.BoolOp .Or (b :: rest) pos) fb) : DE X E (.BoolOp .Or (a :: b :: rest) pos) (fOr fa fb) :=
  ⟨PE.weak (pe_or ha.pe hb.pe) fun σ H Q h => both_of h (fun _ z => tde_c (fun _ => .bl true) z) fun _ z => z⟩
theorem de_not (ha : DE X E a fa) : DE X E (.UnaryOp .Not a pos) (fNot fa) :=
  ⟨PE.weak (pe_not ha.pe) fun σ H Q h => tde_mono (both_of (Rt := fun H' => Q (.bl false) H') (Rf := fun H' => Q (.bl true) H') h (fun _ z => tde_c (fun _ => .bl false) z) fun _ z => tde_c (fun _ => .bl true) z) fun v H' ⟨c, e, z⟩ => ⟨c, e, by cases c <;> exact z⟩⟩
/-- .. as tests -/
theorem dt_val {e : Expr} {f : Env → RE} (h : DE X E e f) (he : ∀ whole, isTrue e X.env whole = (do let v ← whole; standAt e.pos; holding [v] (truthy v)) := by intro _; rfl) : DT X E e f := ⟨pt_val h.pe he⟩
theorem dt_cmp {op : CmpOp} {r : R2} {g : D → D → Option W} (ho : OpR X (compareOp op) r) (hr : Op2R X.K r g) (ha : DE X E a fa) (hb : DE X E b fb) (hm : behindInMarks op b = false) : DT X E (.Compare a [op] [b] pos) (fOp2 g fa fb) :=
  ⟨PT.weak (pt_cmpR ho ha.pe hb.pe hm) fun _ _ _ h => op2_of hr h⟩
structure DW (X : Cx) (E : XK) (e : Expr) (f : Env → RE) : Prop where
  pw : PW X e (tTest (tDE X.K E f))
theorem PW.weak {e : Expr} {t u : TT} (h : PW X e t) (k : ∀ σ H Q, u σ H Q → t σ H Q) : PW X e u := ⟨fun wh pins s σ H Q I q => h.run wh pins s σ H Q I (k σ H Q q)⟩
theorem dw_one {op : Bool} (h : DT X E a fa) : DW X E (.BoolOp (if op then .And else .Or) [a] pos) fa := by
  cases op with
  | true => exact ⟨pw_and1 h.pt⟩
  | false => exact ⟨pw_or1 h.pt⟩
theorem dw_and1 (h : DT X E a fa) : DW X E (.BoolOp .And [a] pos) fa := ⟨pw_and1 h.pt⟩
theorem dw_or1 (h : DT X E a fa) : DW X E (.BoolOp .Or [a] pos) fa := ⟨pw_or1 h.pt⟩
theorem dw_and (ha : DT X E a fa) (hb : DW X E (.BoolOp .And (b :: rest) pos) fb) : DW X E (.BoolOp .And (a :: b :: rest) pos) (fAnd fa fb) :=
  ⟨PW.weak (pw_and ha.pt hb.pw) fun σ H Q h => both_of h (fun _ z => z) fun _ z => by
    obtain ⟨k, e, q⟩ := tde_c (K := X.K) (E := E) (fun _ => .bl false) z
    cases e
    exact q⟩
theorem dw_or (ha : DT X E a fa) (hb : DW X E (.BoolOp .Or (b :: rest) pos) fb) : DW X E (.BoolOp .Or (a :: b :: rest) pos) (fOr fa fb) :=
  ⟨PW.weak (pw_or ha.pt hb.pw) fun σ H Q h => both_of h (fun _ z => by
    obtain ⟨k, e, q⟩ := tde_c (K := X.K) (E := E) (fun _ => .bl true) z
    cases e
    exact q) fun _ z => z⟩
theorem dt_w {e : Expr} {f : Env → RE} (h : DW X E e f) : DT X E e f := ⟨h.pw.pt⟩
theorem dt_not (ha : DT X E a fa) : DT X E (.UnaryOp .Not a pos) (fNot fa) :=
  ⟨PT.weak (pt_not ha.pt) fun σ H Q h => tde_mono (both_of (Rt := fun H' => Q false H') (Rf := fun H' => Q true H') h
    (fun _ z => by
      obtain ⟨k, e, q⟩ := tde_c (K := X.K) (E := E) (fun _ => .bl false) z
      cases e
      exact q)
    fun _ z => by
      obtain ⟨k, e, q⟩ := tde_c (K := X.K) (E := E) (fun _ => .bl true) z
      cases e
      exact q) fun v H' ⟨c, e, z⟩ => ⟨c, e, by cases c <;> exact z⟩⟩
def fIf (fc fa fb : Env → RE) : Env → RE := fBoth fc fa fb
theorem de_if {c : Expr} {fc : Env → RE} (hc : DT X E c fc) (ha : DE X E a fa) (hb : DE X E b fb) : DE X E (.IfExp c a b pos) (fIf fc fa fb) :=
  ⟨PE.weak (pe_ifExp hc.pt ha.pe hb.pe) fun σ H Q h => both_of h (fun _ z => z) fun _ z => z⟩
end

/-! ### arguments, displays -/
inductive RL where
  | ok (ds : List D) (ρ : Env)
  | err (c : Addr) (d : D)
  | st
def CDA (K : PySem.W.Frag) (E : XK) (τ : Nat → Addr) (A0 : List Addr) (H : Hp) (P : List Addr) (σ : L2.St) (o : RL) (Q : List V → Hp → Prop) : Prop :=
  match o with
  | .ok ds ρ' => ∀ vs H' P', Stp K H P H' P' → SRep K τ A0 H' σ ρ' P' → Rps K (hid (P' ++ A0) H') vs ds → Q vs H'
  | .err c d => ∀ dx v H' P', Stp K H P H' P' → (H dx = none ∧ H' dx = some (.xd [(("value" : Str), v)])) → Rp K (hid (P' ++ A0) H') v d → E (.ref c) (some dx) H'
  | .st => False
def tDA (K : PySem.W.Frag) (E : XK) (f : Env → RL) : TA := fun σ H Q => ∃ τ A0 P ρ, SRep K τ A0 H σ ρ P ∧ CDA K E τ A0 H P σ (f ρ) Q
structure DA (X : Cx) (E : XK) (es : List Expr) (f : Env → RL) : Prop where
  pa : PA X es (tDA X.K E f)
def fNil : Env → RL := fun ρ => .ok [] ρ
def fCons (fa : Env → RE) (fr : Env → RL) : Env → RL := fun ρ => match fa ρ with
  | .ok w ρ1 => (match fr ρ1 with
    | .ok ds ρ2 => .ok (w.d :: ds) ρ2
    | .err c d => .err c d
    | .st => .st)
  | .err c d => .err c d
  | .st => .st
section
variable {X : Cx} {E : XK} {e : Expr} {es : List Expr} {fa : Env → RE} {fr : Env → RL}
theorem da_nil : DA X E [] fNil := ⟨PA.weak pa_nil fun σ H Q ⟨τ, A0, P, ρ, S, c⟩ => c [] H P (Stp.rfl H P) S .nil⟩
theorem da_cons (ha : DE X E e fa) (hr : DA X E es fr) (hs : starEach (e :: es) X.env = (false, eval e X.env) :: starEach es X.env := by rfl) : DA X E (e :: es) (fCons fa fr) := by
  refine ⟨PA.weak (pa_cons ha.pe hr.pa hs) fun σ H Q ⟨τ, A0, P, ρ, S, c⟩ => ⟨τ, A0, P, ρ, S, CDE.toD ?_⟩⟩
  unfold fCons at c
  cases q : fa ρ with
  | ok w ρ1 =>
    rw [q] at c
    intro v H1 P1 t1 S1 r1
    refine ⟨τ, A0, P1, ρ1, S1, ?_⟩
    dsimp only at c
    cases q2 : fr ρ1 with
    | ok ds ρ2 =>
      rw [q2] at c
      exact fun vs H2 P2 t2 S2 r2 => c (v :: vs) H2 P2 (t1.trans t2) S2 (.cons (r1.stp t2) r2)
    | err cc d =>
      rw [q2] at c
      exact fun dx v H2 P2 t2 hx hr => c dx v H2 P2 (t1.trans t2) ⟨t1.al _ hx.1, hx.2⟩ hr
    | st =>
      rw [q2] at c
      exact c
  | err cc d =>
    rw [q] at c
    exact c
  | st =>
    rw [q] at c
    exact c
def bndA (fs : Env → RL) (k : List D → Option W) : Env → RE := fun ρ => match fs ρ with
  | .ok ds ρ1 => resW (k ds) ρ1
  | .err c d => .err c d
  | .st => .st
/-- a call of a built-in, by values -/
def CalR (K : PySem.W.Frag) (r : List V → Hp → VK → Prop) (g : List D → Option W) : Prop := ∀ (A : List Addr) (H : Hp) (xs : List V) (ds : List D) (w : W) (Q : VK), (∀ a ∈ A, H a ≠ none) → Rps K (hid A H) xs ds → g ds = some w → GiveW K A H w Q → r xs H Q
theorem tda_bnd {K : PySem.W.Frag} {σ : L2.St} {H : Hp} {Q : VK} {fs : Env → RL} {k : List D → Option W} {R : List V → Hp → Prop} (h : tDE K E (bndA fs k) σ H Q)
    (hk : ∀ vs H' A ds w, (∀ a ∈ A, H' a ≠ none) → Rps K (hid A H') vs ds → k ds = some w → GiveW K A H' w Q → R vs H') : tDA K E fs σ H R := by
  obtain ⟨τ, A0, P, ρ, S, c⟩ := h
  refine ⟨τ, A0, P, ρ, S, ?_⟩
  unfold bndA at c
  cases q : fs ρ with
  | ok ds ρ1 =>
    rw [q] at c
    intro vs H1 P1 t1 S1 r1
    dsimp only [resW] at c
    cases q2 : k ds with
    | some w =>
      rw [q2] at c
      exact hk vs H1 (P1 ++ A0) ds w S1.tr r1 q2 (giveW S1 (CDE.stp t1 c))
    | none =>
      rw [q2] at c
      exact c.elim
  | err cc d =>
    rw [q] at c
    exact c
  | st =>
    rw [q] at c
    exact c
variable {pos p : Pos}
theorem de_callB {x : Str} {id : String} {r : List V → Hp → VK → Prop} {g : List D → Option W} (hc : CallR X (.builtin id) r) (hr : CalR X.K r g) (hg : Gl X x) (hm : X.mg x = none) (hv : bootBuiltins x = some (.builtin id)) (ha : DA X E (e :: es) fr)
    (hn : x ≠ "__name__" := by decide) (hdb : (x == ("__debug__" : Str)) = false := by decide) (he : starEach (e :: es) X.env = (false, eval e X.env) :: starEach es X.env := by rfl) (hpl : (backTo pos (starEach es X.env)).any (·.1) = false := by rfl) :
    DE X E (.Call (.Name x p) (e :: es) [] pos) (bndA fr g) :=
  ⟨PE.weak (pe_callB hc hg hm hv ha.pa hn hdb he hpl) fun σ H Q h => tda_bnd h fun vs H' A ds w tr r q gw => hr A H' vs ds w Q tr r q gw⟩
theorem de_callTy {x : Str} {T : String} {r : List V → Hp → VK → Prop} {g : List D → Option W} (hc : CallR X (.type T) r) (hr : CalR X.K r g) (hg : Gl X x) (hm : X.mg x = none) (hv : bootBuiltins x = some (.type T)) (ha : DA X E (e :: es) fr)
    (hn : x ≠ "__name__" := by decide) (hdb : (x == ("__debug__" : Str)) = false := by decide) (he : starEach (e :: es) X.env = (false, eval e X.env) :: starEach es X.env := by rfl) (hpl : (backTo pos (starEach es X.env)).any (·.1) = false := by rfl) :
    DE X E (.Call (.Name x p) (e :: es) [] pos) (bndA fr g) :=
  ⟨PE.weak (pe_callTy hc hg hm hv ha.pa hn hdb he hpl) fun σ H Q h => tda_bnd h fun vs H' A ds w tr r q gw => hr A H' vs ds w Q tr r q gw⟩
/-- a new list, a new tuple at p -/
theorem give_lst {K : PySem.W.Frag} {A : List Addr} {H : Hp} {ds : List D} {xs : List V} {Q : VK} (r : Rps K (hid A H) xs ds) (h : GiveW K A H (.frs ds) Q) : ∀ p, H p = none → Q (.ref p) (upd H p (.lst xs)) := fun p hp =>
  h p xs (upd H p (.lst xs)) (Evl.Ex.new hp) hp upd_same (r.ext ((hid_add hp).trans fun a o q => by
    obtain ⟨n, e⟩ := hid_of q
    exact hid_in n (by rw [upd_ne (ne_of_none e hp)]; exact e) (hid_nt q)))
theorem hid_upd {A : List Addr} {H : Hp} {p : Addr} {o : HO} (hp : H p = none) : Ext (hid A H) (hid A (upd H p o)) := fun a u q => by
  obtain ⟨n, e⟩ := hid_of q
  exact hid_in n (by rw [upd_ne (ne_of_none e hp)]; exact e) (hid_nt q)
theorem give_tup {K : PySem.W.Frag} {A : List Addr} {H : Hp} {ds : List D} {xs : List V} {Q : VK} (tr : ∀ a ∈ A, H a ≠ none) (r : Rps K (hid A H) xs ds) (h : GiveW K A H (.pu (.tuple ds)) Q) : ∀ p, H p = none → Q (.ref p) (upd H p (.tup xs)) := fun p hp =>
  h (.ref p) (upd H p (.tup xs)) (Evl.Ex.new hp) (.tup (hid_in (fun z => tr p z hp) upd_same) (r.ext (hid_upd hp)))
theorem give_pu {K : PySem.W.Frag} {A : List Addr} {H : Hp} {d : D} {v : V} {Q : VK} (r : Rp K (hid A H) v d) (h : GiveW K A H (.pu d) Q) : Q v H := h v H (Ext.rfl H) r
theorem de_lst (ha : DA X E es fr) (hz : es.length ≤ 10000 := by decide) : DE X E (.List es pos) (bndA fr fun ds => if ds.length ≤ sizeLine then some (.frs ds) else none) := by
  refine ⟨PE.weak (pe_lst ha.pa) fun σ H Q h => tda_bnd h fun vs H' A ds w tr r q gw => ?_⟩
  by_cases hl : ds.length ≤ sizeLine
  · rw [if_pos hl] at q
    cases q
    exact ⟨by rw [r.length]; exact hl, give_lst r gw⟩
  · rw [if_neg hl] at q
    cases q
theorem de_tup {x1} (ha : DA X E es fr) : DE X E (.Tuple es x1 pos) (bndA fr fun ds => if ds.length ≤ sizeLine then some (.pu (.tuple ds)) else none) := by
  refine ⟨PE.weak (pe_tup ha.pa) fun σ H Q h => tda_bnd h fun vs H' A ds w tr r q gw => ?_⟩
  by_cases hl : ds.length ≤ sizeLine
  · rw [if_pos hl] at q
    cases q
    exact ⟨by rw [r.length]; exact hl, give_tup tr r gw⟩
  · rw [if_neg hl] at q
    cases q
end
end DL
/-! D3: operations by values. -/
namespace DL
open PySem L2 PyProof.Rows

section
variable {K : PySem.W.Frag} {A : List Addr} {H : Hp} {Q : VK}
theorem rp_int {v : V} {i : Int} (h : Rp K H v (.int i)) : v = .int i := by cases h; rfl
theorem rp_str {v : V} {x : Str} (h : Rp K H v (.str x)) : v = .str x := by cases h; rfl
theorem rp_non {v : V} (h : Rp K H v .none) : v = .non := by cases h; rfl
theorem rp_lst {v : V} {ds : List D} (h : Rp K (hid A H) v (.list ds)) : ∃ p xs, v = .ref p ∧ H p = some (.lst xs) ∧ Rps K (hid A H) xs ds := by
  cases h with
  | lst h r => exact ⟨_, _, rfl, (hid_of h).2, r⟩
theorem rp_tup {v : V} {ds : List D} (h : Rp K (hid A H) v (.tuple ds)) : ∃ p xs, v = .ref p ∧ H p = some (.tup xs) ∧ Rps K (hid A H) xs ds := by
  cases h with
  | tup h r => exact ⟨_, _, rfl, (hid_of h).2, r⟩
theorem Op2R.or {r r' : R2} {g g' : D → D → Option W} {g2 : D → D → Option W} (h : Op2R K r g) (h' : Op2R K r' g') (e : ∀ a b w, g2 a b = some w → g a b = some w ∨ g' a b = some w) : Op2R K (fun x y H Q => r x y H Q ∨ r' x y H Q) g2 :=
  fun A H x y d1 d2 w Q tr r1 r2 q gw => (e d1 d2 w q).imp (fun z => h A H x y d1 d2 w Q tr r1 r2 z gw) fun z => h' A H x y d1 d2 w Q tr r1 r2 z gw

/-! ### numbers -/
def g2I (C : Int → Int → Bool) (f : Int → Int → D) : D → D → Option W
  | .int i, .int j => if C i j then some (.pu (f i j)) else none
  | _, _ => none
theorem g2I_eq {C : Int → Int → Bool} {f : Int → Int → D} {a b : D} {w : W} (h : g2I C f a b = some w) : ∃ i j, a = .int i ∧ b = .int j ∧ C i j = true ∧ w = .pu (f i j) := by
  unfold g2I at h
  split at h
  · rename_i i j
    by_cases c : C i j = true
    · rw [if_pos c] at h
      exact ⟨i, j, rfl, rfl, c, (Option.some.inj h).symm⟩
    · rw [if_neg c] at h
      cases h
  · cases h
theorem op2_I {C : Int → Int → Prop} {Cb : Int → Int → Bool} {g : Int → Int → V} {f : Int → Int → D} (hC : ∀ i j, Cb i j = true → C i j) (hf : ∀ i j H, Rp K H (g i j) (f i j)) : Op2R K (rI C g) (g2I Cb f) := fun A H x y d1 d2 w Q tr r1 r2 q gw => by
  obtain ⟨i, j, rfl, rfl, c, rfl⟩ := g2I_eq q
  exact ⟨i, j, rp_int r1, rp_int r2, hC i j c, give_pu (hf i j _) gw⟩
theorem op2_I0 {g : Int → Int → V} {f : Int → Int → D} (hf : ∀ i j H, Rp K H (g i j) (f i j)) : Op2R K (rI0 g) (g2I (fun _ _ => true) f) := fun A H x y d1 d2 w Q tr r1 r2 q gw => by
  obtain ⟨i, j, rfl, rfl, c, rfl⟩ := g2I_eq q
  exact ⟨i, j, rp_int r1, rp_int r2, give_pu (hf i j _) gw⟩
def gCat : D → D → Option W
  | .list a, .list b => if a.length + b.length ≤ sizeLine then some (.frs (a ++ b)) else none
  | _, _ => none
theorem op2_cat : Op2R K rCat gCat := fun A H x y d1 d2 w Q tr r1 r2 q gw => by
  unfold gCat at q
  split at q
  · rename_i a b
    obtain ⟨p, xs, rfl, h1, s1⟩ := rp_lst r1
    obtain ⟨p2, ys, rfl, h2, s2⟩ := rp_lst r2
    by_cases c : a.length + b.length ≤ sizeLine
    · rw [if_pos c] at q
      cases q
      exact ⟨p, p2, xs, ys, rfl, rfl, h1, h2, by rw [s1.length, s2.length]; exact c, give_lst (s1.app s2) gw⟩
    · rw [if_neg c] at q
      cases q
  · cases q
def gCatS : D → D → Option W
  | .str a, .str b => if a.length + b.length ≤ sizeLine then some (.pu (.str (a ++ b))) else none
  | _, _ => none
theorem op2_catS : Op2R K (fun x y H Q => ∃ i j, x = .str i ∧ y = .str j ∧ i.length + j.length ≤ sizeLine ∧ Q (.str (i ++ j)) H) gCatS := fun A H x y d1 d2 w Q tr r1 r2 q gw => by
  unfold gCatS at q
  split at q
  · rename_i a b
    by_cases c : a.length + b.length ≤ sizeLine
    · rw [if_pos c] at q
      cases q
      exact ⟨a, b, rp_str r1, rp_str r2, c, give_pu (.str _) gw⟩
    · rw [if_neg c] at q
      cases q
  · cases q
/-- + -/
def gAdd : D → D → Option W
  | .int i, .int j => some (.pu (.int (i + j)))
  | .list a, .list b => if a.length + b.length ≤ sizeLine then some (.frs (a ++ b)) else none
  | .str a, .str b => if a.length + b.length ≤ sizeLine then some (.pu (.str (a ++ b))) else none
  | _, _ => none
def rAddAll : R2 := fun x y H Q => rI0 (fun i j => .int (i + j)) x y H Q ∨ (rCat x y H Q ∨ (fun x y H Q => ∃ i j, x = V.str i ∧ y = V.str j ∧ i.length + j.length ≤ sizeLine ∧ Q (.str (i ++ j)) H) x y H Q)
theorem op2_add : Op2R K rAddAll gAdd := Op2R.or (op2_I0 (f := fun i j => .int (i + j)) fun i j H => .int _) (Op2R.or (g2 := fun a b => (gCat a b).or (gCatS a b)) op2_cat op2_catS fun a b w h => by
  cases q : gCat a b with
  | some u => rw [q] at h; exact .inl h
  | none => rw [q] at h; exact .inr h) fun a b w h => by
  unfold gAdd at h
  split at h
  · exact .inl h
  · rename_i a b
    refine .inr ?_
    show (gCat (.list a) (.list b)).or (gCatS (.list a) (.list b)) = some w
    unfold gCat
    dsimp only
    rw [h]
    rfl
  · refine .inr ?_
    show (none : Option W).or _ = some w
    exact h
  · cases h
/-- * -/
def cMul (i j : Int) : Bool := decide (i.natAbs < 2 ^ 64) || decide (j.natAbs < 2 ^ 64) || decide (i.natAbs.log2 + j.natAbs.log2 < 1000000)
theorem cMul_ok {i j : Int} (h : cMul i j = true) : IntMulOk i j := by
  unfold cMul at h
  simp only [Bool.or_eq_true, decide_eq_true_eq] at h
  rcases h with (h | h) | h
  · exact CMul.ok (.inl ⟨by omega, by omega⟩)
  · exact CMul.ok (.inr ⟨by omega, by omega⟩)
  · exact CMulW.ok h
def gMul : D → D → Option W
  | .int i, .int j => if cMul i j then some (.pu (.int (i * j))) else none
  | .list a, .int k => if k < 2 ^ 63 ∧ -(2 ^ 63) ≤ k ∧ a.length * k.toNat ≤ sizeLine then some (.frs (List.replicate k.toNat a).flatten) else none
  | _, _ => none
theorem Rps.flat {xs : List V} {ds : List D} (h : Rps K H xs ds) : ∀ n : Nat, Rps K H (List.replicate n xs).flatten (List.replicate n ds).flatten
  | 0 => .nil
  | n + 1 => by
    rw [List.replicate_succ, List.replicate_succ, List.flatten_cons, List.flatten_cons]
    exact h.app (Rps.flat h n)
theorem op2_mulI : Op2R K (rI IntMulOk fun i j => .int (i * j)) (g2I cMul fun i j => .int (i * j)) := op2_I (fun _ _ => cMul_ok) fun _ _ _ => .int _
theorem op2_rep : Op2R K rRep (fun d1 d2 => match d1, d2 with | .list a, .int k => gMul (.list a) (.int k) | _, _ => none) := fun A H x y d1 d2 w Q tr r1 r2 q gw => by
  dsimp only at q
  split at q
  · rename_i a k
    obtain ⟨p, xs, rfl, h1, s1⟩ := rp_lst r1
    unfold gMul at q
    dsimp only at q
    by_cases c : k < 2 ^ 63 ∧ -(2 ^ 63) ≤ k ∧ a.length * k.toNat ≤ sizeLine
    · rw [if_pos c] at q
      cases q
      exact ⟨p, k, xs, rfl, rp_int r2, h1, c.2.1, c.1, by rw [s1.length]; exact c.2.2, give_lst (s1.flat _) gw⟩
    · rw [if_neg c] at q
      cases q
  · cases q
theorem op2_mul : Op2R K (fun x y H Q => rI IntMulOk (fun i j => .int (i * j)) x y H Q ∨ rRep x y H Q) gMul := Op2R.or op2_mulI op2_rep fun a b w h => by
  unfold gMul at h
  split at h
  · exact .inl h
  · exact .inr h
  · cases h
/-- // -/
def cDiv (i j : Int) : Bool := (decide (j ≠ 0) && decide (j.natAbs < 1073741824)) || (decide (0 < j) && decide (j.natAbs.log2 < 9000))
def gDiv : D → D → Option W := g2I cDiv fun i j => .int (i.fdiv j)
def gMod : D → D → Option W := g2I (fun _ j => decide (j ≠ 0)) fun i j => .int (i.fmod j)
def gSub : D → D → Option W := g2I (fun _ _ => true) fun i j => .int (i - j)
def cPow (i j : Int) : Bool := decide (0 ≤ j) && decide ((Builtin.Int.intBits i : Int) * j ≤ 2 ^ 27)
def gPow : D → D → Option W := g2I cPow fun i j => .int (i ^ j.toNat)
def gLt : D → D → Option W := g2I (fun _ _ => true) fun i j => .bool (decide (i < j))
def gLe : D → D → Option W := g2I (fun _ _ => true) fun i j => .bool (decide (i ≤ j))
def gGt : D → D → Option W := g2I (fun _ _ => true) fun i j => .bool (decide (j < i))
def gGe : D → D → Option W := g2I (fun _ _ => true) fun i j => .bool (decide (j ≤ i))
def gNeg : D → Option W
  | .int i => some (.pu (.int (-i)))
  | _ => none

/-! ### equality -/
mutual
theorem Rp.dp : ∀ {v : V} {d : D}, Rp K H v d → d.canLay0 = true → Dp K H v d
  | _, _, .non, _ => .non
  | _, _, .bl b, _ => .bl b
  | _, _, .int i, _ => .int i
  | _, _, .str x, _ => .str x
  | _, _, .lst h r, e => .lst (.inl (.inl h)) (Rps.dp r (by simpa [PyData.canLay0] using e))
  | _, _, .tup h r, e => .tup (.inl (.inl h)) (Rps.dp r (by simpa [PyData.canLay0] using e))
  | _, _, .emp h, e => by simp [PyData.canLay0] at e
theorem Rps.dp : ∀ {vs : List V} {ds : List D}, Rps K H vs ds → PyData.canLayAll0 ds = true → DpAll K H vs ds
  | _, _, .nil, _ => .nil
  | _, _, .cons h r, e => by
    simp only [PyData.canLayAll0, Bool.and_eq_true] at e
    exact .cons (Rp.dp h e.1) (Rps.dp r e.2)
end
def gEq0 (d e : D) : Option W := if SeqAt.shaped d && SeqAt.shaped e then some (.pu (.bool (PyData.eqv d e))) else none
def gNe0 (d e : D) : Option W := if SeqAt.shaped d && SeqAt.shaped e then some (.pu (.bool (!PyData.eqv d e))) else none
theorem op2_eq0 : Op2R K (rEqD K) gEq0 := fun A H x y d1 d2 w Q tr r1 r2 q gw => by
  unfold gEq0 at q
  by_cases c : (SeqAt.shaped d1 && SeqAt.shaped d2) = true
  · rw [if_pos c] at q
    cases q
    have c2 := Bool.and_eq_true_iff.mp c
    exact ⟨d1, d2, (r1.ext hid_ext).dp (SeqAt.canLay_of_shaped c2.1), (r2.ext hid_ext).dp (SeqAt.canLay_of_shaped c2.2), c2.1, c2.2, give_pu (.bl _) gw⟩
  · rw [if_neg c] at q
    cases q
theorem op2_ne0 : Op2R K (rNeD K) gNe0 := fun A H x y d1 d2 w Q tr r1 r2 q gw => by
  unfold gNe0 at q
  by_cases c : (SeqAt.shaped d1 && SeqAt.shaped d2) = true
  · rw [if_pos c] at q
    cases q
    have c2 := Bool.and_eq_true_iff.mp c
    exact ⟨d1, d2, (r1.ext hid_ext).dp (SeqAt.canLay_of_shaped c2.1), (r2.ext hid_ext).dp (SeqAt.canLay_of_shaped c2.2), c2.1, c2.2, give_pu (.bl _) gw⟩
  · rw [if_neg c] at q
    cases q

def gEq : D → D → Option W
  | .str a, .str b => some (.pu (.bool (decide (a = b))))
  | d, e => gEq0 d e
def gNe : D → D → Option W
  | .str a, .str b => some (.pu (.bool (!decide (a = b))))
  | d, e => gNe0 d e
theorem dec_str {a b : Str} : decide (V.str a = V.str b) = decide (a = b) := by
  by_cases h : a = b
  · rw [decide_eq_true h, decide_eq_true (congrArg V.str h)]
  · rw [decide_eq_false h, decide_eq_false fun z => h (V.str.inj z)]
theorem op2_eq : Op2R K (fun x y H Q => rEqD K x y H Q ∨ rEq x y H Q) gEq := fun A H x y d1 d2 w Q tr r1 r2 q gw => by
  unfold gEq at q
  split at q
  · cases q
    rw [rp_str r1, rp_str r2]
    exact .inr ⟨rfl, by rw [dec_str]; exact give_pu (.bl _) gw⟩
  · exact .inl (op2_eq0 A H x y d1 d2 w Q tr r1 r2 q gw)
theorem op2_ne : Op2R K (fun x y H Q => rNeD K x y H Q ∨ rNe x y H Q) gNe := fun A H x y d1 d2 w Q tr r1 r2 q gw => by
  unfold gNe at q
  split at q
  · cases q
    rw [rp_str r1, rp_str r2]
    exact .inr ⟨rfl, by rw [dec_str]; exact give_pu (.bl _) gw⟩
  · exact .inl (op2_ne0 A H x y d1 d2 w Q tr r1 r2 q gw)

/-! ### is None, is True -/
def isNone : D → Bool
  | .none => true
  | _ => false
theorem rp_isNone {v : V} {d : D} (h : Rp K H v d) : decide (v = .non) = isNone d := by
  cases h <;> rfl
/-- values that data stand for -/
def rpK : V → Bool
  | .non => true
  | .bl _ => true
  | .int _ => true
  | .str _ => true
  | .ref _ => true
  | _ => false
theorem rp_k {v : V} {d : D} (h : Rp K H v d) : rpK v = true := by
  cases h <;> rfl
def isBl (b : Bool) : D → Bool
  | .bool a => decide (a = b)
  | _ => false
theorem rp_isBl {v : V} {d : D} {b : Bool} (h : Rp K H v d) : decide (v = .bl b) = isBl b d := by
  cases h <;> simp [isBl]
def rIsBl : R2 := fun x y H Q => ∃ b : Bool, y = .bl b ∧ rpK x = true ∧ Q (.bl (decide (x = .bl b))) H
def rNotBl : R2 := fun x y H Q => ∃ b : Bool, y = .bl b ∧ rpK x = true ∧ Q (.bl (!decide (x = .bl b))) H
theorem op_isBlA {X : Cx} : OpR X (compareOp .Is) rIsBl := by
  intro pins s σ H x y v u Q I rx ry h
  obtain ⟨b, rfl, k, q⟩ := h
  cases (show u = Value.bool b from ry)
  have other : v ≠ .bool b → decide (x = .bl b) = false → plainIs v (.bool b) = true → wpAny (model X.prog X.w) X.A (compareOp .Is v (.bool b)) (EP X pins σ Q) X.xe s := fun n e p => wpAny_is_other p n ⟨.bl false, H, I, rfl, by rw [e] at q; exact q⟩
  cases x with
  | non => cases rx; exact other (fun z => nomatch z) (by simp) rfl
  | bl a =>
    cases (show v = Value.bool a from rx)
    by_cases e : a = b
    · subst e
      exact wpAny_is_self rfl ⟨.bl true, H, I, rfl, by simpa using q⟩
    · exact other (fun z => e (Value.bool.inj z)) (by simp [e]) rfl
  | int i =>
    obtain ⟨t, rfl⟩ := rx
    exact other (fun z => nomatch z) (by simp) rfl
  | str i =>
    obtain ⟨t, rfl⟩ := rx
    exact other (fun z => nomatch z) (by simp) rfl
  | ref a => cases rx; exact other (fun z => nomatch z) (by simp) rfl
  | _ => cases k
theorem op_notBlA {X : Cx} : OpR X (compareOp .IsNot) rNotBl := by
  intro pins s σ H x y v u Q I rx ry h
  obtain ⟨b, rfl, k, q⟩ := h
  cases (show u = Value.bool b from ry)
  have other : v ≠ .bool b → decide (x = .bl b) = false → plainIs v (.bool b) = true → wpAny (model X.prog X.w) X.A (compareOp .IsNot v (.bool b)) (EP X pins σ Q) X.xe s := fun n e p => wpAny_isNot_other p n ⟨.bl true, H, I, rfl, by rw [e] at q; exact q⟩
  cases x with
  | non => cases rx; exact other (fun z => nomatch z) (by simp) rfl
  | bl a =>
    cases (show v = Value.bool a from rx)
    by_cases e : a = b
    · subst e
      exact wpAny_isNot_self rfl ⟨.bl false, H, I, rfl, by simpa using q⟩
    · exact other (fun z => e (Value.bool.inj z)) (by simp [e]) rfl
  | int i =>
    obtain ⟨t, rfl⟩ := rx
    exact other (fun z => nomatch z) (by simp) rfl
  | str i =>
    obtain ⟨t, rfl⟩ := rx
    exact other (fun z => nomatch z) (by simp) rfl
  | ref a => cases rx; exact other (fun z => nomatch z) (by simp) rfl
  | _ => cases k
def gIsN : D → D → Option W
  | d, .none => some (.pu (.bool (isNone d)))
  | d, .bool b => some (.pu (.bool (isBl b d)))
  | _, _ => none
def gNotN : D → D → Option W
  | d, .none => some (.pu (.bool (!isNone d)))
  | d, .bool b => some (.pu (.bool (!isBl b d)))
  | _, _ => none
theorem op2_is : Op2R K (fun x y H Q => (y = .non ∧ Q (.bl (decide (x = .non))) H) ∨ rIsBl x y H Q) gIsN := fun A H x y d1 d2 w Q tr r1 r2 q gw => by
  unfold gIsN at q
  split at q
  · cases q
    exact .inl ⟨rp_non r2, by rw [rp_isNone r1]; exact give_pu (.bl _) gw⟩
  · cases q
    exact .inr ⟨_, rp_bool r2, rp_k r1, by rw [rp_isBl r1]; exact give_pu (.bl _) gw⟩
  · cases q
theorem op2_not : Op2R K (fun x y H Q => (y = .non ∧ Q (.bl (!decide (x = .non))) H) ∨ rNotBl x y H Q) gNotN := fun A H x y d1 d2 w Q tr r1 r2 q gw => by
  unfold gNotN at q
  split at q
  · cases q
    exact .inl ⟨rp_non r2, by rw [rp_isNone r1]; exact give_pu (.bl _) gw⟩
  · cases q
    exact .inr ⟨_, rp_bool r2, rp_k r1, by rw [rp_isBl r1]; exact give_pu (.bl _) gw⟩
  · cases q

/-! ### items -/
def gIx : D → D → Option W
  | .list ds, .int i => (atI ds i).map .pu
  | .tuple ds, .int i => (atI ds i).map .pu
  | .str z, .int i => if z.length ≤ sizeLine then (atI z.cps.toList i).map fun c => .pu (.str ⟨#[c]⟩) else none
  | _, _ => none
theorem atI_rps {xs : List V} {ds : List D} (h : Rps K H xs ds) {i : Int} {d : D} (e : atI ds i = some d) : ∃ v, atI xs i = some v ∧ Rp K H v d := by
  unfold atI at e ⊢
  rw [h.length]
  cases q : ixN ds.length i with
  | none => rw [q] at e; cases e
  | some j =>
    rw [q] at e
    exact h.get (i := j) e
theorem op2_ix : Op2R K (rIx K) gIx := fun A H x y d1 d2 w Q tr r1 r2 q gw => by
  unfold gIx at q
  split at q
  · rename_i ds i
    obtain ⟨p, xs, rfl, h1, s1⟩ := rp_lst r1
    cases e : atI ds i with
    | none => rw [e] at q; cases q
    | some d =>
      rw [e] at q
      cases q
      obtain ⟨v, h2, h3⟩ := atI_rps s1 e
      exact .inl ⟨p, xs, i, v, rfl, rp_int r2, .inl (.inl h1), h2, give_pu h3 gw⟩
  · rename_i ds i
    obtain ⟨p, xs, rfl, h1, s1⟩ := rp_tup r1
    cases e : atI ds i with
    | none => rw [e] at q; cases q
    | some d =>
      rw [e] at q
      cases q
      obtain ⟨v, h2, h3⟩ := atI_rps s1 e
      exact .inr (.inl ⟨p, xs, i, v, rfl, rp_int r2, .inl (.inl h1), h2, give_pu h3 gw⟩)
  · rename_i z i
    by_cases c : z.length ≤ sizeLine
    · rw [if_pos c] at q
      cases e : atI z.cps.toList i with
      | none => rw [e] at q; cases q
      | some d =>
        rw [e] at q
        cases q
        exact .inr (.inr ⟨z, i, d, rp_str r1, rp_int r2, c, e, give_pu (.str _) gw⟩)
    · rw [if_neg c] at q
      cases q
  · cases q

/-! ### built-ins -/
def gLen : List D → Option W
  | [.list ds] => some (.pu (.int ds.length))
  | [.tuple ds] => some (.pu (.int ds.length))
  | [.str x] => if x.length ≤ sizeLine then some (.pu (.int x.length)) else none
  | _ => none
theorem rps_one {vs : List V} {d : D} (h : Rps K H vs [d]) : ∃ v, vs = [v] ∧ Rp K H v d := by
  cases h with
  | cons h r => cases r; exact ⟨_, rfl, h⟩
theorem rps_two {vs : List V} {d e : D} (h : Rps K H vs [d, e]) : ∃ v u, vs = [v, u] ∧ Rp K H v d ∧ Rp K H u e := by
  cases h with
  | cons h r =>
    obtain ⟨u, rfl, q⟩ := rps_one r
    exact ⟨_, _, rfl, h, q⟩
theorem cal_len : CalR K (fun xs H Q => ∃ x n, xs = [x] ∧ LenV K x H n ∧ Q (.int n) H) gLen := fun A H xs ds w Q tr r q gw => by
  unfold gLen at q
  split at q
  · obtain ⟨v, rfl, h⟩ := rps_one r
    obtain ⟨p, ys, rfl, h1, s1⟩ := rp_lst h
    cases q
    exact ⟨_, _, rfl, .inl ⟨ys, .inl (.inl h1), s1.length.symm⟩, give_pu (.int _) gw⟩
  · obtain ⟨v, rfl, h⟩ := rps_one r
    obtain ⟨p, ys, rfl, h1, s1⟩ := rp_tup h
    cases q
    exact ⟨_, _, rfl, .inr ⟨ys, .inl (.inl h1), s1.length.symm⟩, give_pu (.int _) gw⟩
  · rename_i x
    by_cases c : x.length ≤ sizeLine
    · rw [if_pos c] at q
      cases q
      obtain ⟨v, rfl, h⟩ := rps_one r
      rw [rp_str h]
      exact ⟨_, _, rfl, ⟨c, rfl⟩, give_pu (.int _) gw⟩
    · rw [if_neg c] at q
      cases q
  · cases q
def intsOf : List D → Option (List Int)
  | [] => some []
  | .int i :: r => (intsOf r).map (i :: ·)
  | _ :: _ => none
theorem rps_ints : ∀ {vs : List V} {ds : List D} {ns : List Int}, Rps K H vs ds → intsOf ds = some ns → vs = ns.map V.int
  | _, [], _, h, e => by
    cases h
    cases e
    rfl
  | _, .int i :: ds, ns, h, e => by
    cases h with
    | cons h r =>
      rw [rp_int h]
      unfold intsOf at e
      cases q : intsOf ds with
      | none => rw [q] at e; cases e
      | some ms =>
        rw [q] at e
        cases e
        rw [rps_ints r q]
        rfl
  | _, .none :: _, _, _, e => by cases e
  | _, .bool _ :: _, _, _, e => by cases e
  | _, .str _ :: _, _, _, e => by cases e
  | _, .list _ :: _, _, _, e => by cases e
  | _, .tuple _ :: _, _, _, e => by cases e
  | _, .dict _ :: _, _, _, e => by cases e
def gSum : List D → Option W
  | [.list ds] => (intsOf ds).map fun ns => .pu (.int ns.sum)
  | _ => none
theorem cal_sum : CalR K (rSum K) gSum := fun A H xs ds w Q tr r q gw => by
  unfold gSum at q
  split at q
  · rename_i ds
    obtain ⟨v, rfl, h⟩ := rps_one r
    obtain ⟨p, ys, rfl, h1, s1⟩ := rp_lst h
    cases e : intsOf ds with
    | none => rw [e] at q; cases q
    | some ns =>
      rw [e] at q
      cases q
      rw [rps_ints s1 e] at h1
      exact ⟨p, ns, rfl, .inl (.inl h1), give_pu (.int _) gw⟩
  · cases q
def gMax2 : List D → Option W
  | [.int i, .int j] => some (.pu (.int (if j > i then j else i)))
  | _ => none
def gMin2 : List D → Option W
  | [.int i, .int j] => some (.pu (.int (if j < i then j else i)))
  | _ => none
theorem cal_max2 : CalR K (fun xs H Q => ∃ i j, xs = [.int i, .int j] ∧ Q (.int (if j > i then j else i)) H) gMax2 := fun A H xs ds w Q tr r q gw => by
  unfold gMax2 at q
  split at q
  · obtain ⟨v, u, rfl, h1, h2⟩ := rps_two r
    cases q
    rw [rp_int h1, rp_int h2]
    exact ⟨_, _, rfl, give_pu (.int _) gw⟩
  · cases q
theorem cal_min2 : CalR K (fun xs H Q => ∃ i j, xs = [.int i, .int j] ∧ Q (.int (if j < i then j else i)) H) gMin2 := fun A H xs ds w Q tr r q gw => by
  unfold gMin2 at q
  split at q
  · obtain ⟨v, u, rfl, h1, h2⟩ := rps_two r
    cases q
    rw [rp_int h1, rp_int h2]
    exact ⟨_, _, rfl, give_pu (.int _) gw⟩
  · cases q
def gInt1 : List D → Option W
  | [.int i] => some (.pu (.int i))
  | [.bool b] => some (.pu (.int (if b then 1 else 0)))
  | _ => none
theorem cal_int1 : CalR K (fun xs H Q => (∃ i, xs = [.int i] ∧ Q (.int i) H) ∨ ∃ k, xs = [.bl k] ∧ Q (.int (if k then 1 else 0)) H) gInt1 := fun A H xs ds w Q tr r q gw => by
  unfold gInt1 at q
  split at q
  · obtain ⟨v, rfl, h⟩ := rps_one r
    cases q
    rw [rp_int h]
    exact .inl ⟨_, rfl, give_pu (.int _) gw⟩
  · obtain ⟨v, rfl, h⟩ := rps_one r
    cases q
    rw [rp_bool h]
    exact .inr ⟨_, rfl, give_pu (.int _) gw⟩
  · cases q
def gAbs : List D → Option W
  | [.int i] => some (.pu (.int (if i < 0 then -i else i)))
  | _ => none
theorem cal_abs : CalR K (fun xs H Q => ∃ i, xs = [.int i] ∧ Q (.int (if i < 0 then -i else i)) H) gAbs := fun A H xs ds w Q tr r q gw => by
  unfold gAbs at q
  split at q
  · obtain ⟨v, rfl, h⟩ := rps_one r
    cases q
    rw [rp_int h]
    exact ⟨_, rfl, give_pu (.int _) gw⟩
  · cases q
def gListOf : List D → Option W
  | [.list ds] => some (.frs ds)
  | [.tuple ds] => some (.frs ds)
  | _ => none
theorem cal_list : CalR K (fun xs H Q => ∃ p ys, xs = [.ref p] ∧ (SqL K H p ys ∨ SqT K H p ys) ∧ ∀ l, H l = none → Q (.ref l) (upd H l (.lst ys))) gListOf := fun A H xs ds w Q tr r q gw => by
  unfold gListOf at q
  split at q
  · obtain ⟨v, rfl, h⟩ := rps_one r
    obtain ⟨p, ys, rfl, h1, s1⟩ := rp_lst h
    cases q
    exact ⟨p, ys, rfl, .inl (.inl (.inl h1)), give_lst s1 gw⟩
  · obtain ⟨v, rfl, h⟩ := rps_one r
    obtain ⟨p, ys, rfl, h1, s1⟩ := rp_tup h
    cases q
    exact ⟨p, ys, rfl, .inr (.inl (.inl h1)), give_lst s1 gw⟩
  · cases q
def gTupleOf : List D → Option W
  | [.list ds] => some (.pu (.tuple ds))
  | [.tuple ds] => some (.pu (.tuple ds))
  | _ => none
theorem cal_tuple : CalR K (fun xs H Q => ∃ p ys, xs = [.ref p] ∧ ((SqL K H p ys ∧ ∀ l, H l = none → Q (.ref l) (upd H l (.tup ys))) ∨ (SqT K H p ys ∧ Q (.ref p) H))) gTupleOf := fun A H xs ds w Q tr r q gw => by
  unfold gTupleOf at q
  split at q
  · obtain ⟨v, rfl, h⟩ := rps_one r
    obtain ⟨p, ys, rfl, h1, s1⟩ := rp_lst h
    cases q
    exact ⟨p, ys, rfl, .inl ⟨.inl (.inl h1), give_tup tr s1 gw⟩⟩
  · obtain ⟨v, rfl, h⟩ := rps_one r
    obtain ⟨p, ys, e, h1, s1⟩ := rp_tup h
    subst e
    cases q
    exact ⟨p, ys, rfl, .inr ⟨.inl (.inl h1), give_pu h gw⟩⟩
  · cases q
end

/-! ### isinstance -/
def tyName : D → String
  | .none => "NoneType"
  | .bool _ => "bool"
  | .int _ => "int"
  | .str _ => "str"
  | .list _ => "list"
  | .tuple _ => "tuple"
  | .dict _ => "dict"
def isN (n t : String) : Bool := (t == n) || (n == "int" && t == "bool")
def isA (n : String) (d : D) : Bool := isN n (tyName d)
def tyOk (n : String) : Bool := n == "int" || n == "bool" || n == "str" || n == "list" || n == "tuple"
theorem kit_tab : ∀ n ∈ ["int", "bool", "str", "list", "tuple"], ∀ t ∈ ["NoneType", "bool", "int", "str", "list", "tuple", "dict"], kitB t n = some (isN n t) := by decide +kernel
theorem kit_isA {K : PySem.W.Frag} {n : String} (h : tyOk n = true) (d : D) : PySem.W.kitOne K (.type (tyName d)) (.type n) = some (isA n d) := by
  unfold tyOk at h
  simp only [Bool.or_eq_true, beq_iff_eq] at h
  refine kit_ty (kit_tab n ?_ (tyName d) ?_)
  · rcases h with (((h | h) | h) | h) | h <;> rw [h] <;> simp
  · cases d <;> simp [tyName]
def dOk : D → Bool
  | .dict (_ :: _) => false
  | _ => true
theorem rp_ty {K : PySem.W.Frag} {A : List Addr} {H : Hp} {v : V} {d : D} (h : Rp K (hid A H) v d) (ok : dOk d = true) : TyX K H v (.type (tyName d)) := by
  cases h with
  | non => exact .base .non
  | bl b => exact .base (.bl b)
  | int i => exact .base (.int i)
  | str x => exact .base (.str x)
  | lst h r => exact .base (.lst (hid_of h).2)
  | tup h r => exact .base (.tup (hid_of h).2)
  | emp h => exact .base (.dK (hid_of h).2)
  | exc h1 h2 r => cases ok
  | fn => cases ok
def gIsi (n : String) (d : D) : Option W := if dOk d then some (.pu (.bool (isA n d))) else none
def gIsi2 (n m : String) (d : D) : Option W := if dOk d then some (.pu (.bool (isA n d || isA m d))) else none
section
variable {X : Cx} {E : XK} {e : Expr} {fa : Env → RE} {pos p p2 : Pos}
/-- isinstance(e, T), T a built-in type by its name -/
theorem de_isi {n : Str} {T : String} (hT : tyOk T = true) (hg : Gl X "isinstance") (hm : X.mg "isinstance" = none) (hgT : Gl X n) (hmT : X.mg n = none) (hvT : bootBuiltins n = some (.type T)) (ha : DE X E e fa)
    (hn : n ≠ "__name__" := by decide) (hdT : (n == ("__debug__" : Str)) = false := by decide) (he : starEach [e, .Name n p2] X.env = (false, eval e X.env) :: starEach [.Name n p2] X.env := by rfl) (he2 : starEach [.Name n p2] X.env = (false, eval (.Name n p2) X.env) :: starEach [] X.env := by rfl)
    (hpl : (backTo pos (starEach [.Name n p2] X.env)).any (·.1) = false := by rfl) :
    DE X E (.Call (.Name "isinstance" p) [e, .Name n p2] [] pos) (fOp1 (gIsi T) fa) := by
  refine ⟨PE.weak (pe_callB call_isi hg hm (by decide +kernel) (pa_cons ha.pe (pa_cons (pe_bltn hgT hmT hvT (v := .ty T) rfl hn hdT) pa_nil he2) he) (by decide) (by decide) he hpl) fun σ H Q h => ?_⟩
  refine tde_bnd h fun v H' τ A0 P' ρ' d S r c => ?_
  by_cases ok : dOk d = true
  · unfold gIsi at c
    rw [if_pos ok] at c
    exact ⟨v, .ty T, _, _, _, rfl, .ty T, rp_ty r ok, kit_isA hT d, give_pu (.bl _) (giveW S c)⟩
  · unfold gIsi at c
    rw [if_neg ok] at c
    exact c.elim
/-- isinstance(e, (T1, T2)) -/
theorem de_isi2 {n1 n2 : Str} {T1 T2 : String} {k : Nat} {p3 p4 : Pos} (hT1 : tyOk T1 = true) (hT2 : tyOk T2 = true) (hg : Gl X "isinstance") (hm : X.mg "isinstance" = none) (hg1 : Gl X n1) (hm1 : X.mg n1 = none) (hv1 : bootBuiltins n1 = some (.type T1)) (hg2 : Gl X n2) (hm2 : X.mg n2 = none) (hv2 : bootBuiltins n2 = some (.type T2)) (ha : DE X E e fa)
    (hn1 : n1 ≠ "__name__" := by decide) (hd1 : (n1 == ("__debug__" : Str)) = false := by decide) (hn2 : n2 ≠ "__name__" := by decide) (hd2 : (n2 == ("__debug__" : Str)) = false := by decide)
    (he : starEach [e, .Tuple [.Name n1 p2, .Name n2 p3] k p4] X.env = (false, eval e X.env) :: starEach [.Tuple [.Name n1 p2, .Name n2 p3] k p4] X.env := by rfl)
    (hpl : (backTo pos (starEach [.Tuple [.Name n1 p2, .Name n2 p3] k p4] X.env)).any (·.1) = false := by rfl) :
    DE X E (.Call (.Name "isinstance" p) [e, .Tuple [.Name n1 p2, .Name n2 p3] k p4] [] pos) (fOp1 (gIsi2 T1 T2) fa) := by
  refine ⟨PE.weak (pe_callB call_isiT hg hm (by decide +kernel) (pa_cons ha.pe (pa_cons (pe_tup (pa_cons (pe_bltn hg1 hm1 hv1 (v := .ty T1) rfl hn1 hd1) (pa_cons (pe_bltn hg2 hm2 hv2 (v := .ty T2) rfl hn2 hd2) pa_nil))) pa_nil) he) (by decide) (by decide) he hpl) fun σ H Q h => ?_⟩
  refine tde_bnd h fun v H' τ A0 P' ρ' d S r c => ?_
  unfold gIsi2 at c
  by_cases ok : dOk d = true
  rotate_left
  · rw [if_neg ok] at c
    exact c.elim
  rw [if_pos ok] at c
  refine ⟨by show 2 ≤ sizeLine; decide, fun tp ht => ?_⟩
  refine ⟨v, tp, [.ty T1, .ty T2], _, [.type T1, .type T2], _, rfl, upd_same, .cons (.ty T1) (.cons (.ty T2) .nil), rp_ty (A := P' ++ A0) (r.ext (hid_upd ht)) ok, kitAny_cons (kit_isA hT1 d) (b := isA T1 d) (r := isA T1 d || isA T2 d) (fun e1 => ?_) (fun e1 => by rw [e1]; rfl), ?_⟩
  · rw [e1, Bool.false_or]
    exact kitAny_cons (kit_isA hT2 d) (fun e2 => by rw [e2]; exact kitAny_nil) fun e2 => e2
  · have g : GiveW X.K (P' ++ A0) H' (.pu (.bool (isA T1 d || isA T2 d))) Q := giveW S c
    exact g _ _ (Evl.Ex.new ht) (.bl _)
end
section
variable {X : Cx}
theorem op_addAll : OpR X (binaryOp .Add) rAddAll := op_add.or (op_cat.or op_add_str)
theorem op_mulOk : OpR X (binaryOp .Mult) (rI IntMulOk fun i j => .int (i * j)) := opI fun _ _ _ _ _ _ _ hc q => mul_int q hc
theorem op_mulAll : OpR X (binaryOp .Mult) (fun x y H Q => rI IntMulOk (fun i j => .int (i * j)) x y H Q ∨ rRep x y H Q) := op_mulOk.or op_rep
theorem op_divAll : OpR X (binaryOp .FloorDiv) (rI (fun i j => cDiv i j = true) fun i j => .int (i.fdiv j)) := opI fun i j _ _ _ _ _ hc q => by
  unfold cDiv at hc
  simp only [Bool.or_eq_true, Bool.and_eq_true, decide_eq_true_eq] at hc
  rcases hc with ⟨h1, h2⟩ | ⟨h1, h2⟩
  · exact floordiv_int h1 q (.inl (PyProof.noPylong_small h2))
  · exact floordiv_int (by omega) q (.inl (PyProof.noPylong_of_log2 h2))
theorem op_powAll : OpR X (binaryOp .Pow) (rI (fun i j => cPow i j = true) fun i j => .int (i ^ j.toNat)) := opI fun i j _ _ _ _ _ hc q => by
  unfold cPow at hc
  simp only [Bool.and_eq_true, decide_eq_true_eq] at hc
  exact pow_int hc.1 hc.2 q
variable {E : XK} {a b : Expr} {fa fb : Env → RE} {pos : Pos}
theorem d_add (ha : DE X E a fa) (hb : DE X E b fb) : DE X E (.BinOp a .Add b pos) (fOp2 gAdd fa fb) := de_bin op_addAll op2_add ha hb
theorem d_sub (ha : DE X E a fa) (hb : DE X E b fb) : DE X E (.BinOp a .Sub b pos) (fOp2 gSub fa fb) := de_bin op_sub (op2_I0 fun _ _ _ => .int _) ha hb
theorem d_mul (ha : DE X E a fa) (hb : DE X E b fb) : DE X E (.BinOp a .Mult b pos) (fOp2 gMul fa fb) := de_bin op_mulAll op2_mul ha hb
theorem d_div (ha : DE X E a fa) (hb : DE X E b fb) : DE X E (.BinOp a .FloorDiv b pos) (fOp2 gDiv fa fb) := de_bin op_divAll (op2_I (fun _ _ h => h) fun _ _ _ => .int _) ha hb
theorem d_mod (ha : DE X E a fa) (hb : DE X E b fb) : DE X E (.BinOp a .Mod b pos) (fOp2 gMod fa fb) := de_bin op_modN (op2_I (fun _ _ h => of_decide_eq_true h) fun _ _ _ => .int _) ha hb
theorem d_pow (ha : DE X E a fa) (hb : DE X E b fb) : DE X E (.BinOp a .Pow b pos) (fOp2 gPow fa fb) := de_bin op_powAll (op2_I (fun _ _ h => h) fun _ _ _ => .int _) ha hb
theorem d_neg (ha : DE X E a fa) : DE X E (.UnaryOp .USub a pos) (fOp1 gNeg fa) := de_un un_neg (fun A H x d1 w Q tr r1 q gw => by
  unfold gNeg at q
  split at q
  · cases q
    exact ⟨_, rp_int r1, give_pu (.int _) gw⟩
  · cases q) ha
theorem d_lt (ha : DE X E a fa) (hb : DE X E b fb) : DE X E (.Compare a [.Lt] [b] pos) (fOp2 gLt fa fb) := de_cmp op_lt (op2_I0 fun _ _ _ => .bl _) ha hb (nomark _)
theorem d_le (ha : DE X E a fa) (hb : DE X E b fb) : DE X E (.Compare a [.LtE] [b] pos) (fOp2 gLe fa fb) := de_cmp op_le (op2_I0 fun _ _ _ => .bl _) ha hb (nomark _)
theorem d_gt (ha : DE X E a fa) (hb : DE X E b fb) : DE X E (.Compare a [.Gt] [b] pos) (fOp2 gGt fa fb) := de_cmp op_gt (op2_I0 fun _ _ _ => .bl _) ha hb (nomark _)
theorem d_ge (ha : DE X E a fa) (hb : DE X E b fb) : DE X E (.Compare a [.GtE] [b] pos) (fOp2 gGe fa fb) := de_cmp op_ge (op2_I0 fun _ _ _ => .bl _) ha hb (nomark _)
theorem d_eq (hu : X.A.units + 64 < cLine) (ha : DE X E a fa) (hb : DE X E b fb) : DE X E (.Compare a [.Eq] [b] pos) (fOp2 gEq fa fb) := de_cmp ((op_eqD hu).or op_eq) op2_eq ha hb (nomark _)
theorem d_ne (hu : X.A.units + 64 < cLine) (ha : DE X E a fa) (hb : DE X E b fb) : DE X E (.Compare a [.NotEq] [b] pos) (fOp2 gNe fa fb) := de_cmp ((op_neD hu).or op_ne) op2_ne ha hb (nomark _)
theorem d_is (ha : DE X E a fa) (hb : DE X E b fb) : DE X E (.Compare a [.Is] [b] pos) (fOp2 gIsN fa fb) := de_cmp (op_isN.or op_isBlA) op2_is ha hb (nomark _)
theorem d_isnot (ha : DE X E a fa) (hb : DE X E b fb) : DE X E (.Compare a [.IsNot] [b] pos) (fOp2 gNotN fa fb) := de_cmp (op_notN.or op_notBlA) op2_not ha hb (nomark _)
theorem d_ix (ha : DE X E a fa) (hb : DE X E b fb) (hs : PlainIx b := by exact fun _ _ => rfl) : DE X E (.Subscript a b pos) (fOp2 gIx fa fb) := de_ix ix_seq op2_ix ha hb hs
/-- xs[::-1] -/
def gRev : D → Option W
  | .list ds => some (.frs ds.reverse)
  | _ => none
theorem d_rev {k : Nat} {p1 p2 p3 : Pos} (ha : DE X E a fa) : DE X E (.Subscript a (.Slice none none (some (.UnaryOp .USub (.Constant (.int 1) k p1) p2)) p3) pos) (fOp1 gRev fa) := by
  refine ⟨PE.weak (pe_revL ha.pe) fun σ H Q h => tde_bnd h fun v H' τ A0 P' ρ' d S r c => ?_⟩
  unfold resW gRev at c
  split at c
  · rename_i w q
    split at q
    · obtain ⟨p, xs, rfl, h1, s1⟩ := rp_lst r
      cases q
      exact ⟨p, xs, rfl, .inl (.inl h1), give_lst s1.rev (giveW S c)⟩
    · cases q
  · exact c.elim
/-- n.bit_length() -/
def gBits : D → Option W
  | .int i => some (.pu (.int (Builtin.Int.intBits i : Nat)))
  | _ => none
theorem d_bits {apos : Pos} (ha : DE X E a fa) (hbase : attributeBase a "bit_length" X.env (eval a X.env) = eval a X.env := by rfl) (hline : (apos.endLine == pos.line) = true := by rfl) : DE X E (.Call (.Attribute a "bit_length" apos) [] [] pos) (fOp1 gBits fa) := by
  refine ⟨PE.weak (pe_bits ha.pe hbase hline) fun σ H Q h => tde_bnd h fun v H' τ A0 P' ρ' d S r c => ?_⟩
  unfold resW gBits at c
  split at c
  · rename_i w q
    split at q
    · cases q
      exact ⟨_, rp_int r, give_pu (.int _) (giveW S c)⟩
    · cases q
  · exact c.elim
end
end DL
/-! D4: what is walked, comprehensions, statements. -/
namespace DL
open PySem L2 PyProof.Rows

/-! ### what is walked -/
inductive RI where
  | ok (items : List D) (ρ : Env)
  | err (c : Addr) (d : D)
  | st
/-- the turns of J are these items, whatever grows -/
def Walks (K : PySem.W.Frag) (A0 : List Addr) (J : It) (items : List D) (H : Hp) (P : List Addr) : Prop :=
  ∀ (A1 : List Addr) (i : Nat) (H2 : Hp) (P2 : List Addr), (∀ a ∈ A1, a ∈ A0 ∨ H a = none) → Stp K H P H2 P2 →
    (∀ d, items[i]? = some d → J.go i H2 ∧ ∀ x H3, J.yld i H2 x H3 → Ext H2 H3 ∧ ((∀ a ∈ P2 ++ A1, H2 a ≠ none) → Rp K (hid (P2 ++ A1) H3) x d)) ∧ (items.length ≤ i → J.stop i H2)
def CDI (K : PySem.W.Frag) (E : XK) (τ : Nat → Addr) (A0 : List Addr) (H : Hp) (P : List Addr) (σ : L2.St) (o : RI) (R : It → Hp → Prop) : Prop :=
  match o with
  | .ok items ρ' => ∀ J H' P', Stp K H P H' P' → SRep K τ A0 H' σ ρ' P' → Walks K A0 J items H' P' → R J H'
  | .err c d => ∀ dx v H' P', Stp K H P H' P' → (H dx = none ∧ H' dx = some (.xd [(("value" : Str), v)])) → Rp K (hid (P' ++ A0) H') v d → E (.ref c) (some dx) H'
  | .st => False
def tDI (K : PySem.W.Frag) (E : XK) (f : Env → RI) : TI := fun σ H R => ∃ τ A0 P ρ, SRep K τ A0 H σ ρ P ∧ CDI K E τ A0 H P σ (f ρ) R
structure DI (X : Cx) (E : XK) (tg e : Expr) (f : Env → RI) : Prop where
  pi : PI X tg e (tDI X.K E f)
theorem PI.weak {X : Cx} {tg e : Expr} {t u : TI} (h : PI X tg e t) (k : ∀ σ H Q, u σ H Q → t σ H Q) : PI X tg e u := ⟨fun pins s σ H Q I q => h.run pins s σ H Q I (k σ H Q q)⟩
/-- a source by the value of an expression -/
def srcE (fa : Env → RE) (k : D → Option (List D)) : Env → RI := fun ρ => match fa ρ with
  | .ok w ρ1 => (match k w.d with
    | some items => .ok items ρ1
    | none => .st)
  | .err c d => .err c d
  | .st => .st
def srcA (fs : Env → RL) (k : List D → Option (List D)) : Env → RI := fun ρ => match fs ρ with
  | .ok ds ρ1 => (match k ds with
    | some items => .ok items ρ1
    | none => .st)
  | .err c d => .err c d
  | .st => .st
section
variable {K : PySem.W.Frag} {E : XK} {τ : Nat → Addr} {A0 P : List Addr} {H : Hp} {σ : L2.St} {ρ : Env}
theorem srcE_of {fa : Env → RE} {k : D → Option (List D)} {R : It → Hp → Prop} {U : VK} (h : tDI K E (srcE fa k) σ H R)
    (hk : ∀ v H' τ A0 P' ρ' d items, SRep K τ A0 H' σ ρ' P' → Rp K (hid (P' ++ A0) H') v d → k d = some items → (∀ J H2, Ext H' H2 → Walks K A0 J items H2 P' → R J H2) → U v H') : tDE K E fa σ H U := by
  obtain ⟨τ, A0, P, ρ, S, c⟩ := h
  refine ⟨τ, A0, P, ρ, S, CDE.toD ?_⟩
  unfold srcE at c
  cases q : fa ρ with
  | ok w ρ1 =>
    rw [q] at c
    dsimp only at c
    intro v H1 P1 t1 S1 r1
    cases q2 : k w.d with
    | none => rw [q2] at c; exact c.elim
    | some items =>
      rw [q2] at c
      exact hk v H1 τ A0 P1 ρ1 w.d items S1 r1 q2 fun J H2 e wk => c J H2 P1 (t1.trans (Stp.ext e)) (S1.grow e.gr) wk
  | err cc d => rw [q] at c; exact c
  | st => rw [q] at c; exact c
theorem srcA_of {fs : Env → RL} {k : List D → Option (List D)} {R : It → Hp → Prop} {U : List V → Hp → Prop} (h : tDI K E (srcA fs k) σ H R)
    (hk : ∀ vs H' τ A0 P' ρ' ds items, SRep K τ A0 H' σ ρ' P' → Rps K (hid (P' ++ A0) H') vs ds → k ds = some items → (∀ J H2, Ext H' H2 → Walks K A0 J items H2 P' → R J H2) → U vs H') : tDA K E fs σ H U := by
  obtain ⟨τ, A0, P, ρ, S, c⟩ := h
  refine ⟨τ, A0, P, ρ, S, ?_⟩
  unfold srcA at c
  cases q : fs ρ with
  | ok ds ρ1 =>
    rw [q] at c
    dsimp only at c
    intro vs H1 P1 t1 S1 r1
    cases q2 : k ds with
    | none => rw [q2] at c; exact c.elim
    | some items =>
      rw [q2] at c
      exact hk vs H1 τ A0 P1 ρ1 ds items S1 r1 q2 fun J H2 e wk => c J H2 P1 (t1.trans (Stp.ext e)) (S1.grow e.gr) wk
  | err cc d => rw [q] at c; exact c
  | st => rw [q] at c; exact c
theorem hid_none {A : List Addr} {a : Addr} {o : HO} {H : Hp} (h : hid A H a = some o) : a ∉ A := (hid_of h).1
/-- what was borne stands behind any step, though more is hidden that is new -/
theorem Rp.later {A1 P2 : List Addr} {H2 : Hp} {v : V} {d : D} (r : Rp K (hid (P ++ A0) H) v d) (hA : ∀ a ∈ A1, a ∈ A0 ∨ H a = none) (t : Stp K H P H2 P2) : Rp K (hid (P2 ++ A1) H2) v d :=
  r.ext fun a o q => by
    obtain ⟨n, e⟩ := hid_of q
    rw [List.mem_append, not_or] at n
    refine hid_in (fun z => ?_) (t.kp a o n.1 e (hid_nt q)) (hid_nt q)
    rcases List.mem_append.mp z with z | z
    · rcases t.nw a z with z | z
      · exact n.1 z
      · rw [z] at e; cases e
    · rcases hA a z with z | z
      · exact n.2 z
      · rw [z] at e; cases e
theorem walks_list {a : Addr} {xs : List V} {items : List D} (h : H a = some (.lst xs)) (ha : a ∉ P) (r : Rps K (hid (P ++ A0) H) xs items) : Walks K A0 (Itl K a) items H P := fun A1 i H2 P2 hA t => by
  have h2 : H2 a = some (.lst xs) := t.kp a _ ha h (fun _ z => nomatch z)
  have uq : ∀ ys, SqL K H2 a ys → SqL K H2 a xs := fun ys _ => .inl (.inl h2)
  refine ⟨fun d e => ?_, fun e => ⟨xs, .inl (.inl h2), by rw [r.length]; exact e⟩⟩
  obtain ⟨v, e1, r1⟩ := r.get e
  refine ⟨⟨xs, v, .inl (.inl h2), e1⟩, fun x H3 y => ?_⟩
  obtain ⟨rfl, y⟩ := y
  have e2 := y xs (.inl (.inl h2))
  rw [e1] at e2
  cases e2
  exact ⟨Ext.rfl _, fun _ => r1.later hA t⟩
theorem walks_tup {a : Addr} {xs : List V} {items : List D} (h : H a = some (.tup xs)) (ha : a ∉ P) (r : Rps K (hid (P ++ A0) H) xs items) : Walks K A0 (Itt K a) items H P := fun A1 i H2 P2 hA t => by
  have h2 : H2 a = some (.tup xs) := t.kp a _ ha h (fun _ z => nomatch z)
  refine ⟨fun d e => ?_, fun e => ⟨xs, .inl (.inl h2), by rw [r.length]; exact e⟩⟩
  obtain ⟨v, e1, r1⟩ := r.get e
  refine ⟨⟨xs, v, .inl (.inl h2), e1⟩, fun x H3 y => ?_⟩
  obtain ⟨rfl, y⟩ := y
  have e2 := y xs (.inl (.inl h2))
  rw [e1] at e2
  cases e2
  exact ⟨Ext.rfl _, fun _ => r1.later hA t⟩
def rngD (lo : Int) (n : Nat) : List D := (List.range n).map fun i => .int (lo + (i : Nat))
theorem rngD_get {lo : Int} {n i : Nat} {d : D} (h : (rngD lo n)[i]? = some d) : i < n ∧ d = .int (lo + (i : Nat)) := by
  unfold rngD at h
  rw [List.getElem?_map] at h
  cases q : (List.range n)[i]? with
  | none => rw [q] at h; cases h
  | some j =>
    rw [q] at h
    obtain ⟨hl, e⟩ := List.getElem?_eq_some_iff.mp q
    rw [List.getElem_range] at e
    subst e
    rw [List.length_range] at hl
    exact ⟨hl, (Option.some.inj h).symm⟩
theorem walks_rng {lo : Int} {n : Nat} : Walks K A0 (Itr lo n) (rngD lo n) H P := fun A1 i H2 P2 hA t => by
  refine ⟨fun d e => ?_, fun e => ?_⟩
  · obtain ⟨hi, rfl⟩ := rngD_get e
    refine ⟨hi, fun x H3 y => ?_⟩
    obtain ⟨rfl, rfl⟩ := y
    exact ⟨Ext.rfl _, fun _ => .int _⟩
  · show n ≤ i
    simpa [rngD] using e
def rngCD (lo c : Int) (n : Nat) : List D := (List.range n).map fun i => .int (lo + (i : Nat) * c)
theorem walks_rngC {lo c : Int} {n : Nat} : Walks K A0 (Itc lo c n) (rngCD lo c n) H P := fun A1 i H2 P2 hA t => by
  refine ⟨fun d e => ?_, fun e => ?_⟩
  · unfold rngCD at e
    rw [List.getElem?_map] at e
    cases q : (List.range n)[i]? with
    | none => rw [q] at e; cases e
    | some j =>
      rw [q] at e
      obtain ⟨hl, e2⟩ := List.getElem?_eq_some_iff.mp q
      rw [List.getElem_range] at e2
      subst e2
      rw [List.length_range] at hl
      cases e
      refine ⟨hl, fun x H3 y => ?_⟩
      obtain ⟨rfl, rfl⟩ := y
      exact ⟨Ext.rfl _, fun _ => .int _⟩
  · show n ≤ i
    simpa [rngCD] using e
def enumD : Nat → List D → List D
  | _, [] => []
  | n, d :: r => .tuple [.int (n : Nat), d] :: enumD (n + 1) r
theorem enumD_get : ∀ {l : List D} {n i : Nat} {d : D}, (enumD n l)[i]? = some d → ∃ e, l[i]? = some e ∧ d = .tuple [.int ((n + i : Nat) : Int), e]
  | [], _, _, _, h => by simp [enumD] at h
  | x :: r, n, 0, d, h => by
    simp [enumD] at h
    exact ⟨x, rfl, by rw [← h]; simp⟩
  | x :: r, n, i + 1, d, h => by
    obtain ⟨e, h1, h2⟩ := enumD_get (l := r) (n := n + 1) (i := i) (d := d) (by simpa [enumD] using h)
    exact ⟨e, by simpa using h1, by rw [h2]; congr 3; congr 1; omega⟩
theorem enumD_len : ∀ (l : List D) (n : Nat), (enumD n l).length = l.length
  | [], _ => rfl
  | x :: r, n => by simp [enumD, enumD_len r]
theorem walks_enum {a : Addr} {xs : List V} {items : List D} (h : H a = some (.lst xs)) (ha : a ∉ P) (r : Rps K (hid (P ++ A0) H) xs items) : Walks K A0 (Ite K a) (enumD 0 items) H P := fun A1 i H2 P2 hA t => by
  have h2 : H2 a = some (.lst xs) := t.kp a _ ha h (fun _ z => nomatch z)
  refine ⟨fun d e => ?_, fun e => ⟨xs, .inl (.inl h2), by rw [r.length, ← enumD_len items 0]; exact e⟩⟩
  obtain ⟨e, e1, rfl⟩ := enumD_get e
  obtain ⟨v, e2, r1⟩ := r.get e1
  refine ⟨⟨xs, v, .inl (.inl h2), e2⟩, fun x H3 y => ?_⟩
  obtain ⟨T, z, rfl, hT, rfl, y⟩ := y
  have e3 := y xs (.inl (.inl h2))
  rw [e2] at e3
  cases e3
  refine ⟨Evl.Ex.new hT, fun tr => .tup (hid_in (fun q => tr T q hT) upd_same) (.cons ?_ (.cons ((r1.later hA t).ext (hid_upd hT)) .nil))⟩
  have e0 : ((0 + i : Nat) : Int) = ((i : Nat) : Int) := by simp
  rw [e0]
  exact .int _
end
section
variable {X : Cx} {E : XK} {tg a : Expr} {es : List Expr} {fa : Env → RE} {fs : Env → RL} {p pos : Pos}
def itemsL : D → Option (List D)
  | .list ds => some ds
  | _ => none
def itemsT : D → Option (List D)
  | .tuple ds => some ds
  | _ => none
theorem rp_out {K : PySem.W.Frag} {A0 P : List Addr} {H : Hp} {v : V} {ds : List D} (h : Rp K (hid (P ++ A0) H) v (.list ds)) : ∃ p xs, v = .ref p ∧ H p = some (.lst xs) ∧ p ∉ P ∧ Rps K (hid (P ++ A0) H) xs ds := by
  cases h with
  | lst h r => exact ⟨_, _, rfl, (hid_of h).2, fun z => (hid_of h).1 (List.mem_append_left _ z), r⟩
theorem di_list (ha : DE X E a fa) : DI X E tg a (srcE fa itemsL) := by
  refine ⟨PI.weak (pi_list ha.pe) fun σ H R h => srcE_of h fun v H' τ A0 P' ρ' d items S r q k => ?_⟩
  cases d with
  | list ds =>
    cases q
    obtain ⟨b, xs, rfl, h1, h2, s1⟩ := rp_out r
    exact ⟨b, rfl, ⟨xs, .inl (.inl h1)⟩, k _ _ (Ext.rfl _) (walks_list h1 h2 s1)⟩
  | _ => cases q
theorem di_tup (ha : DE X E a fa) : DI X E tg a (srcE fa itemsT) := by
  refine ⟨PI.weak (pi_tup ha.pe) fun σ H R h => srcE_of h fun v H' τ A0 P' ρ' d items S r q k => ?_⟩
  cases d with
  | tuple ds =>
    cases q
    cases r with
    | tup h s1 => exact ⟨_, rfl, ⟨_, .inl (.inl (hid_of h).2)⟩, k _ _ (Ext.rfl _) (walks_tup (hid_of h).2 (fun z => (hid_of h).1 (List.mem_append_left _ z)) s1)⟩
  | _ => cases q
def kRng1 : List D → Option (List D)
  | [.int j] => if -(2 ^ 62) ≤ j ∧ j < 2 ^ 62 then some (rngD 0 j.toNat) else none
  | _ => none
def kRng2 : List D → Option (List D)
  | [.int i, .int j] => if -(2 ^ 62) ≤ i ∧ i < 2 ^ 62 ∧ -(2 ^ 62) ≤ j ∧ j < 2 ^ 62 then some (rngD i (j - i).toNat) else none
  | _ => none
theorem di_rng1 (hg : Gl X "range") (hm : X.mg "range" = none) (ha : DA X E [a] fs) (hs : starEach [a] X.env = [(false, eval a X.env)] := by rfl) : DI X E tg (.Call (.Name "range" p) [a] [] pos) (srcA fs kRng1) := by
  refine ⟨PI.weak (pi_range1 hg hm ha.pa hs) fun σ H R h => srcA_of h fun vs H' τ A0 P' ρ' ds items S r q k => ?_⟩
  unfold kRng1 at q
  split at q
  · rename_i j
    by_cases c : -(2 ^ 62) ≤ j ∧ j < 2 ^ 62
    · rw [if_pos c] at q
      cases q
      obtain ⟨v, rfl, h1⟩ := rps_one r
      rw [rp_int h1]
      exact ⟨j, rfl, c.1, c.2, k _ _ (Ext.rfl _) walks_rng⟩
    · rw [if_neg c] at q
      cases q
  · cases q
theorem di_rng2 {b : Expr} (hg : Gl X "range") (hm : X.mg "range" = none) (ha : DA X E [a, b] fs) (hs : starEach [a, b] X.env = [(false, eval a X.env), (false, eval b X.env)] := by rfl) (hs2 : starEach [b] X.env = [(false, eval b X.env)] := by rfl) : DI X E tg (.Call (.Name "range" p) [a, b] [] pos) (srcA fs kRng2) := by
  refine ⟨PI.weak (pi_range2 hg hm ha.pa hs hs2) fun σ H R h => srcA_of h fun vs H' τ A0 P' ρ' ds items S r q k => ?_⟩
  unfold kRng2 at q
  split at q
  · rename_i i j
    by_cases c : -(2 ^ 62) ≤ i ∧ i < 2 ^ 62 ∧ -(2 ^ 62) ≤ j ∧ j < 2 ^ 62
    · rw [if_pos c] at q
      cases q
      obtain ⟨v, u, rfl, h1, h2⟩ := rps_two r
      rw [rp_int h1, rp_int h2]
      exact ⟨i, j, rfl, c, k _ _ (Ext.rfl _) walks_rng⟩
    · rw [if_neg c] at q
      cases q
  · cases q
def kEnum : List D → Option (List D)
  | [.list ds] => some (enumD 0 ds)
  | _ => none
theorem di_enum {elts : List Expr} {kk : Nat} {tpos : Pos} (hg : Gl X "enumerate") (hm : X.mg "enumerate" = none) (ha : DA X E [a] fs) (hs : starEach [a] X.env = [(false, eval a X.env)] := by rfl) : DI X E (.Tuple elts kk tpos) (.Call (.Name "enumerate" p) [a] [] pos) (srcA fs kEnum) := by
  refine ⟨PI.weak (pi_enum hg hm ha.pa hs) fun σ H R h => srcA_of h fun vs H' τ A0 P' ρ' ds items S r q k => ?_⟩
  unfold kEnum at q
  split at q
  · cases q
    obtain ⟨v, rfl, h1⟩ := rps_one r
    obtain ⟨b, xs, rfl, h2, h3, s1⟩ := rp_out h1
    exact ⟨b, xs, rfl, .inl (.inl h2), k _ _ (Ext.rfl _) (walks_enum h2 h3 s1)⟩
  · cases q
end

/-! ### targets -/
/-- a slot gets data -/
theorem SRep.put {K : PySem.W.Frag} {τ : Nat → Addr} {A0 P : List Addr} {H : Hp} {σ : L2.St} {ρ : Env} (S : SRep K τ A0 H σ ρ P) {v : V} {d : D} (r : Rp K (hid (P ++ A0) H) v d) (i : Nat) : SRep K τ A0 H (σ.set i (some v)) (ρ.set i (some (.pu d))) P := by
  have g : ∀ {m u : Nat} {gs : List D}, (ρ.set i (some (.pu d)))[m]? = some (some (.own u gs)) → i ≠ m ∧ ρ[m]? = some (some (.own u gs)) := fun {m u gs} z => by
    by_cases hm : i = m
    · subst hm
      by_cases hi : i < ρ.length
      · rw [List.getElem?_set_self hi] at z; cases z
      · rw [List.getElem?_eq_none (by simpa using hi)] at z; cases z
    · rw [List.getElem?_set_ne hm] at z
      exact ⟨hm, z⟩
  refine ⟨fun j m e q => ?_, fun j t ds q => ?_, fun j k u u2 es fs p hjk e1 e2 e3 => ?_, S.tr, by simpa using S.len, S.dj, S.tb, fun j g q => ?_⟩
  rotate_right
  · have gn : ∀ {m : Nat} {s : Sl}, (∀ d, s ≠ .pu d) → (ρ.set i (some (.pu d)))[m]? = some (some s) → i ≠ m ∧ ρ[m]? = some (some s) := fun {m s} hs z => by
      by_cases hm : i = m
      · subst hm
        by_cases hi : i < ρ.length
        · rw [List.getElem?_set_self hi] at z
          exact absurd (Option.some.inj (Option.some.inj z)).symm (hs d)
        · rw [List.getElem?_eq_none (by simpa using hi)] at z; cases z
      · rw [List.getElem?_set_ne hm] at z
        exact ⟨hm, z⟩
    obtain ⟨hj, q1⟩ := gn (fun _ z => by cases z) q
    obtain ⟨n1, n2, n3⟩ := S.ns j g q1
    exact ⟨n1.gr (List.getElem?_set_ne hj) fun _ _ _ z => z, fun k h z => n2 k h (gn (fun _ z => by cases z) z).2, fun k t ds z => n3 k t ds (gn (fun _ z => by cases z) z).2⟩
  · by_cases hj : i = j
    · subst hj
      by_cases hi : i < ρ.length
      · rw [List.getElem?_set_self hi] at q
        cases q
        exact ⟨v, List.getElem?_set_self (by rw [S.len]; exact hi), r, fun z => nomatch z⟩
      · rw [List.getElem?_eq_none (by simpa using hi)] at q; cases q
    · rw [List.getElem?_set_ne hj] at q
      obtain ⟨u, h1, h2⟩ := S.pu j m e q
      exact ⟨u, by rw [List.getElem?_set_ne hj]; exact h1, h2⟩
  · obtain ⟨hj, q⟩ := g q
    obtain ⟨p, xs, h1, h2⟩ := S.own j t ds q
    exact ⟨p, xs, by rw [List.getElem?_set_ne hj]; exact h1, h2⟩
  · obtain ⟨hj, q1⟩ := g e1
    obtain ⟨hk, q2⟩ := g e2
    rw [List.getElem?_set_ne hj] at e3
    rw [List.getElem?_set_ne hk]
    exact S.inj j k u u2 es fs p hjk q1 q2 e3
/-- a target: which slots it sets (of js) -/
def GtOk (K : PySem.W.Frag) (g : TG) (b : D → Env → Option Env) (js : List Nat) : Prop :=
  ∀ (τ : Nat → Addr) (A0 P : List Addr) (H : Hp) (σ : L2.St) (ρ ρ2 : Env) (v : V) (d : D), SRep K τ A0 H σ ρ P → Rp K (hid (P ++ A0) H) v d → b d ρ = some ρ2 →
    ∃ σ2, SRep K τ A0 H σ2 ρ2 P ∧ σ2.length = σ.length ∧ (∀ i, i ∉ js → σ2[i]? = σ[i]?) ∧ ∀ Q : L2.St → Hp → Prop, Q σ2 H → g v σ H Q
def bName (i : Nat) : D → Env → Option Env := fun d ρ => some (ρ.set i (some (.pu d)))
theorem gt_name {K : PySem.W.Frag} {i : Nat} : GtOk K (gName i) (bName i) [i] := fun τ A0 P H σ ρ ρ2 v d S r e => by
  cases e
  refine ⟨σ.set i (some v), S.put r i, List.length_set, fun j hj => ?_, fun Q q => q⟩
  rw [List.getElem?_set_ne (fun z => hj (by rw [z]; simp))]
def bList : List (D → Env → Option Env) → List D → Env → Option Env
  | [], [], ρ => some ρ
  | b :: bs, d :: ds, ρ => (b d ρ).bind (bList bs ds)
  | _, _, _ => none
def GtsOk (K : PySem.W.Frag) (g : TGs) (bs : List (D → Env → Option Env)) (js : List Nat) : Prop :=
  ∀ (τ : Nat → Addr) (A0 P : List Addr) (H : Hp) (σ : L2.St) (ρ ρ2 : Env) (vs : List V) (ds : List D), SRep K τ A0 H σ ρ P → Rps K (hid (P ++ A0) H) vs ds → bList bs ds ρ = some ρ2 →
    ∃ σ2, SRep K τ A0 H σ2 ρ2 P ∧ σ2.length = σ.length ∧ (∀ i, i ∉ js → σ2[i]? = σ[i]?) ∧ ∀ Q : L2.St → Hp → Prop, Q σ2 H → g vs σ H Q
theorem gts_nil {K : PySem.W.Frag} : GtsOk K gNil [] [] := fun τ A0 P H σ ρ ρ2 vs ds S r e => by
  cases ds with
  | nil =>
    cases e
    cases r
    exact ⟨σ, S, rfl, fun _ _ => rfl, fun Q q => ⟨rfl, q⟩⟩
  | cons d ds => cases e
theorem gts_cons {K : PySem.W.Frag} {g : TG} {gs : TGs} {b : D → Env → Option Env} {bs : List (D → Env → Option Env)} {js ks : List Nat} (h : GtOk K g b js) (hs : GtsOk K gs bs ks) : GtsOk K (gCons g gs) (b :: bs) (js ++ ks) := fun τ A0 P H σ ρ ρ2 vs ds S r e => by
  cases ds with
  | nil => cases e
  | cons d ds =>
    cases r with
    | cons r1 r2 =>
      unfold bList at e
      cases q : b d ρ with
      | none => rw [q] at e; cases e
      | some ρ1 =>
        rw [q] at e
        obtain ⟨σ1, S1, l1, o1, k1⟩ := h τ A0 P H σ ρ ρ1 _ d S r1 q
        obtain ⟨σ2, S2, l2, o2, k2⟩ := hs τ A0 P H σ1 ρ1 ρ2 _ ds S1 r2 e
        exact ⟨σ2, S2, l2.trans l1, fun i hi => (o2 i fun z => hi (List.mem_append_right _ z)).trans (o1 i fun z => hi (List.mem_append_left _ z)), fun Q q => ⟨_, _, rfl, k1 _ (k2 Q q)⟩⟩
def bTup (bs : List (D → Env → Option Env)) : D → Env → Option Env := fun d ρ => match d with
  | .tuple ds => bList bs ds ρ
  | _ => none
theorem bList_len : ∀ {bs : List (D → Env → Option Env)} {ds : List D} {ρ ρ2 : Env}, bList bs ds ρ = some ρ2 → ds.length = bs.length
  | [], [], _, _, _ => rfl
  | [], _ :: _, _, _, h => by cases h
  | _ :: _, [], _, _, h => by cases h
  | b :: bs, d :: ds, ρ, ρ2, h => by
    unfold bList at h
    cases q : b d ρ with
    | none => rw [q] at h; cases h
    | some ρ1 =>
      rw [q] at h
      simp [bList_len (bs := bs) (ds := ds) h]
theorem gt_tup {K : PySem.W.Frag} {gs : TGs} {bs : List (D → Env → Option Env)} {js : List Nat} {n : Nat} (h : GtsOk K gs bs js) (hn : bs.length = n := by rfl) : GtOk K (gTup K n gs) (bTup bs) js := fun τ A0 P H σ ρ ρ2 v d S r e => by
  cases d with
  | tuple ds =>
    obtain ⟨p, xs, rfl, h1, s1⟩ := rp_tup r
    have e : bList bs ds ρ = some ρ2 := e
    obtain ⟨σ2, S2, l2, o2, k2⟩ := h τ A0 P H σ ρ ρ2 xs ds S s1 e
    exact ⟨σ2, S2, l2, o2, fun Q q => ⟨p, xs, rfl, .inl (.inl h1), by rw [s1.length, bList_len e, hn], k2 Q q⟩⟩
  | _ => cases e
end DL
/-! D5: comprehensions, statements. -/
namespace DL
open PySem L2 PyProof.Rows

structure DTs (X : Cx) (E : XK) (ifs : List Expr) (f : Env → RE) : Prop where
  pts : PTs X ifs (tTest (tDE X.K E f))
section
variable {X : Cx} {E : XK}
theorem dts_nil : DTs X E [] (fC (.bool true)) := ⟨⟨fun pins s σ H Q I h => by
  obtain ⟨k, e, q⟩ := tde_c (K := X.K) (E := E) (fun _ => .bl true) h
  cases e
  exact pts_nil.run pins s σ H Q I q⟩⟩
theorem dts_one {c : Expr} {f : Env → RE} (h : DT X E c f) : DTs X E [c] f := ⟨pts_one h.pt⟩
end

def wipeE (ρ : Env) : List Nat → Env
  | [] => ρ
  | v :: vs => (wipeE ρ vs).set v none
theorem wipeE_len (ρ : Env) : ∀ vs, (wipeE ρ vs).length = ρ.length
  | [] => rfl
  | v :: vs => by unfold wipeE; rw [List.length_set, wipeE_len ρ vs]
theorem wipeE_some {ρ : Env} {i : Nat} {x : Sl} : ∀ {vs : List Nat}, (wipeE ρ vs)[i]? = some (some x) → ρ[i]? = some (some x) ∧ i ∉ vs
  | [], h => ⟨h, by simp⟩
  | v :: vs, h => by
    unfold wipeE at h
    by_cases hi : v = i
    · subst hi
      by_cases hv : v < (wipeE ρ vs).length
      · rw [List.getElem?_set_self hv] at h; cases h
      · rw [List.getElem?_eq_none (by simpa using hv)] at h; cases h
    · rw [List.getElem?_set_ne hi] at h
      obtain ⟨h1, h2⟩ := wipeE_some h
      exact ⟨h1, by simp only [List.mem_cons, not_or]; exact ⟨fun e => hi e.symm, h2⟩⟩
/-- the same slots but those of vs: what is known of the others stands -/
theorem SRep.wiped {K : PySem.W.Frag} {τ : Nat → Addr} {A0 P : List Addr} {H : Hp} {σ σ2 : L2.St} {ρ : Env} (S : SRep K τ A0 H σ ρ P) {vs : List Nat} (h : ∀ i, i ∉ vs → σ2[i]? = σ[i]?) (hl : σ2.length = σ.length) : SRep K τ A0 H σ2 (wipeE ρ vs) P := by
  refine ⟨fun i m d q => ?_, fun i t ds q => ?_, fun i j t u es fs p hij e1 e2 e3 => ?_, S.tr, by rw [hl, wipeE_len]; exact S.len, S.dj, S.tb, fun i g q => ?_⟩
  rotate_right
  · obtain ⟨q1, n⟩ := wipeE_some q
    obtain ⟨n1, n2, n3⟩ := S.ns i g q1
    exact ⟨n1.gr (h i n) fun _ _ _ z => z, fun j k z => n2 j k (wipeE_some z).1, fun j t ds z => n3 j t ds (wipeE_some z).1⟩
  · obtain ⟨q1, n⟩ := wipeE_some q
    rw [h i n]
    exact S.pu i m d q1
  · obtain ⟨q1, n⟩ := wipeE_some q
    rw [h i n]
    exact S.own i t ds q1
  · obtain ⟨q1, n1⟩ := wipeE_some e1
    obtain ⟨q2, n2⟩ := wipeE_some e2
    rw [h i n1] at e3
    rw [h j n2]
    exact S.inj i j t u es fs p hij q1 q2 e3

theorem wipe_in {σ : L2.St} {i : Nat} : ∀ {vs : List Nat}, i ∈ vs → i < σ.length → (wipe σ vs)[i]? = some none
  | [], h, _ => absurd h (by simp)
  | v :: vs, h, hl => by
    unfold wipe
    by_cases e : v = i
    · rw [e, List.getElem?_set_self (by rw [wipe_length]; exact hl)]
    · rw [List.getElem?_set_ne e]
      exact wipe_in ((List.mem_cons.mp h).resolve_left fun z => e z.symm) hl
theorem wipe_same {σ σ2 : L2.St} {vs : List Nat} (hl : σ2.length = σ.length) (h : ∀ i, i ∉ vs → σ2[i]? = (wipe σ vs)[i]?) : wipe σ2 vs = wipe σ vs := by
  apply List.ext_getElem?
  intro i
  by_cases hv : i ∈ vs
  · by_cases hi : i < σ.length
    · rw [wipe_in hv hi, wipe_in hv (by rw [hl]; exact hi)]
    · rw [List.getElem?_eq_none (by rw [wipe_length]; omega), List.getElem?_eq_none (by rw [wipe_length]; omega)]
  · rw [wipe_out hv]
    exact h i hv
/-- the turns of a comprehension -/
def lcGo (bind : D → Env → Option Env) (ft fe : Env → RE) (vs : List Nat) : List D → List D → Env → RE
  | [], acc, ρ => .ok (.frs acc) ρ
  | d :: r, acc, ρ => match bind d ρ with
    | none => .st
    | some ρ1 => match ft ρ1 with
      | .ok w ρ2 => (match w.d with
        | .bool true => (match fe ρ2 with
          | .ok w3 ρ3 => if acc.length < sizeLine then lcGo bind ft fe vs r (acc ++ [w3.d]) (wipeE ρ3 vs) else .st
          | _ => .st)
        | .bool false => lcGo bind ft fe vs r acc (wipeE ρ2 vs)
        | _ => .st)
      | _ => .st
def fLc (src : Env → RI) (bind : D → Env → Option Env) (ft fe : Env → RE) (vs : List Nat) : Env → RE := fun ρ => match src ρ with
  | .ok items ρ1 => lcGo bind ft fe vs items [] (wipeE ρ1 vs)
  | .err c d => .err c d
  | .st => .st
theorem lcGo_frs {bind : D → Env → Option Env} {ft fe : Env → RE} {vs : List Nat} : ∀ {l acc : List D} {ρ : Env}, lcGo bind ft fe vs l acc ρ = .st ∨ ∃ acc' ρ', lcGo bind ft fe vs l acc ρ = .ok (.frs acc') ρ'
  | [], acc, ρ => .inr ⟨acc, ρ, rfl⟩
  | d :: r, acc, ρ => by
    unfold lcGo
    cases bind d ρ with
    | none => exact .inl rfl
    | some ρ1 =>
      dsimp only
      cases ft ρ1 with
      | ok w ρ2 =>
        dsimp only
        split
        · split
          · split
            · exact lcGo_frs
            · exact .inl rfl
          · exact .inl rfl
        · exact lcGo_frs
        · exact .inl rfl
      | err c d => exact .inl rfl
      | st => exact .inl rfl
abbrev E0 : XK := fun _ _ _ => False
section
variable {K : PySem.W.Frag} {E : XK} {τ : Nat → Addr} {A0 P : List Addr} {H : Hp} {σ : L2.St} {ρ : Env} {Q : VK}
theorem hid_upd_in {A : List Addr} {p : Addr} {o : HO} (h : p ∈ A) : hid A (upd H p o) = hid A H := by
  funext a
  unfold hid
  by_cases e : a ∈ A
  · rw [if_pos e, if_pos e]
  · rw [if_neg e, if_neg e, upd_ne (fun z => e (by rw [z]; exact h))]
/-- a hidden list that is none of ours changes -/
theorem SRep.updH {p : Addr} {xs ys : List V} (S : SRep K τ A0 H σ ρ P) (hp : p ∈ A0) (hl : H p = some (.lst ys)) : SRep K τ A0 (L2.upd H p (.lst xs)) σ ρ P := by
  have np : p ∉ P := fun z => S.dj p z hp
  have e : hid (P ++ A0) (L2.upd H p (.lst xs)) = hid (P ++ A0) H := hid_upd_in (List.mem_append_right _ hp)
  refine ⟨fun i m d q => ?_, fun i t ds q => ?_, S.inj, fun a z n => ?_, S.len, S.dj, fun b hb => tab_lst hl (S.tb b hb), fun i g q => ⟨(S.ns i g q).1.gr rfl fun a ys hm z => by rw [upd_ne (fun w => np (by rw [← w]; exact hm))]; exact z, (S.ns i g q).2⟩⟩
  · rw [hid_upd_in (hs_mem (List.mem_append_right _ hp))]
    exact S.pu i m d q
  · rw [e]
    obtain ⟨b, ys, h1, h2, h3, h4⟩ := S.own i t ds q
    exact ⟨b, ys, h1, h2, by rw [upd_ne (fun z => np (by rw [← z]; exact h2))]; exact h3, h4⟩
  · by_cases ha : a = p
    · rw [ha, upd_same] at n; cases n
    · rw [upd_ne ha] at n
      exact S.tr a z n
theorem stp_upd {p : Addr} {o : HO} {H0 : Hp} {P0 : List Addr} (t : Stp K H0 P0 H P) (hp : H0 p = none) (hl : H p = none ∨ ∃ ys, H p = some (.lst ys)) : Stp K H0 P0 (L2.upd H p o) P := by
  refine ⟨fun a u n e nt => ?_, t.nw, fun a e => ?_, fun z b hb => hl.elim (fun h => tab_none h (t.tb z b hb)) fun ⟨ys, h⟩ => tab_lst h (t.tb z b hb)⟩
  · rw [upd_ne (ne_of_none e hp)]
    exact t.kp a u n e nt
  · by_cases ha : a = p
    · rw [ha, upd_same] at e; cases e
    · rw [upd_ne ha] at e
      exact t.al a e
/-- one element of a comprehension -/
theorem cde_any {f : Env → RE} {w : W} {ρ2 : Env} {R : VK} (S : SRep K τ A0 H σ ρ P) (e : f ρ = .ok w ρ2) (h : ∀ v H' P', Stp K H P H' P' → SRep K τ A0 H' σ ρ2 P' → Rp K (hid (P' ++ A0) H') v w.d → R v H') : tDE K E f σ H R := by
  refine ⟨τ, A0, P, ρ, S, CDE.toD ?_⟩
  rw [e]
  exact h
theorem lc_of {src : Env → RI} {bind : D → Env → Option Env} {ft fe : Env → RE} {vs : List Nat} {g : TG} {js : List Nat} (hg : GtOk K g bind js) (hjs : ∀ j ∈ js, j ∈ vs)
    (h : tDE K E (fLc src bind ft fe vs) σ H Q) : tLc (tDI K E src) g (tTest (tDE K E0 ft)) (tDE K E0 fe) vs σ H Q := by
  obtain ⟨τ, A0, P, ρ, S, c⟩ := h
  refine ⟨τ, A0, P, ρ, S, ?_⟩
  unfold fLc at c
  cases q : src ρ with
  | err cc d => rw [q] at c; exact c
  | st => rw [q] at c; exact c
  | ok items ρ1 =>
    rw [q] at c
    dsimp only at c
    intro J H1 P1 t1 S1 wk Dl hD
    rcases lcGo_frs (bind := bind) (ft := ft) (fe := fe) (vs := vs) (l := items) (acc := []) (ρ := wipeE ρ1 vs) with e | ⟨accF, ρF, e⟩
    · rw [e] at c; exact c.elim
    rw [e] at c
    have c : ∀ p xs H' P', Stp K H P H' P' → H p = none → p ∉ P' → p ∉ A0 → SRep K τ (p :: A0) H' σ ρF P' → H' p = some (.lst xs) → Rps K (hid (P' ++ p :: A0) H') xs accF → Q (.ref p) H' := c
    have hD0 : H Dl = none := t1.al Dl hD
    obtain ⟨nP, nA⟩ := S1.fresh hD
    have tD : Stp K H1 P1 (L2.upd H1 Dl (.lst [])) P1 := stp_upd (Stp.rfl H1 P1) hD (.inl hD)
    have len_w : ∀ σ' : L2.St, σ'.length = σ.length → (wipe σ' vs).length = σ.length := fun σ' z => by rw [wipe_length]; exact z
    have S2 : SRep K τ (Dl :: A0) (L2.upd H1 Dl (.lst [])) (wipe σ vs) (wipeE ρ1 vs) P1 := (S1.addHid hD (Ext.gr (Evl.Ex.new hD)) (by rw [upd_same]; exact fun z => nomatch z)).wiped (fun i hi => wipe_out hi) (wipe_length σ vs)
    have hA1 : ∀ a ∈ Dl :: A0, a ∈ A0 ∨ H1 a = none := fun a z => (List.mem_cons.mp z).elim (fun z => .inr (by rw [z]; exact hD)) .inl
    refine ⟨fun i m H' => m = items.length - i ∧ i ≤ items.length ∧ ∃ acc ρ' P' xs, SRep K τ (Dl :: A0) H' (wipe σ vs) ρ' P' ∧ Stp K H1 P1 H' P' ∧ H' Dl = some (.lst xs) ∧ Rps K (hid (P' ++ Dl :: A0) H') xs acc ∧ lcGo bind ft fe vs (items.drop i) acc ρ' = .ok (.frs accF) ρF,
      ⟨_, rfl, Nat.zero_le _, [], wipeE ρ1 vs, P1, [], S2, tD, upd_same, .nil, e⟩, ?_⟩
    rintro i m H' ⟨rfl, hi, acc, ρ', P', xs, S3, t3, h3, r3, e3⟩
    obtain ⟨w1, w2⟩ := wk (Dl :: A0) i H' P' hA1 t3
    cases q2 : items[i]? with
    | none =>
      have hle : items.length ≤ i := List.getElem?_eq_none_iff.mp q2
      refine .inl ⟨w2 hle, ?_⟩
      rw [List.drop_eq_nil_of_le hle] at e3
      have e4 : acc = accF ∧ ρ' = ρF := by
        unfold lcGo at e3
        injection e3 with a b
        injection a with a
        exact ⟨a, b⟩
      obtain ⟨rfl, rfl⟩ := e4
      refine c Dl xs H' P' (t1.trans t3) hD0 (fun z => S3.dj Dl z List.mem_cons_self) nA ?_ h3 r3
      -- the slots of σ: those of the wiped one, and nothing told of vs
      refine ⟨fun j m d z => ?_, fun j t ds z => ?_, fun j k t u es fs p hjk z1 z2 z3 => ?_, S3.tr, by rw [← wipe_length σ vs]; exact S3.len, S3.dj, S3.tb, fun j g z => ?_⟩
      rotate_right
      · obtain ⟨⟨p, qs, n1, n2⟩, n3⟩ := S3.ns j g z
        exact ⟨⟨p, qs, (wipe_some n1).1, n2⟩, n3⟩
      · obtain ⟨v, a1, a2⟩ := S3.pu j m d z
        exact ⟨v, (wipe_some a1).1, a2⟩
      · obtain ⟨p, ys, a1, a2⟩ := S3.own j t ds z
        exact ⟨p, ys, (wipe_some a1).1, a2⟩
      · obtain ⟨p1, _, b1, _⟩ := S3.own j t es z1
        obtain ⟨p2, _, b2, _⟩ := S3.own k u fs z2
        have c1 := (wipe_some b1).1
        have c2 := (wipe_some b2).1
        rw [z3] at c1
        cases c1
        intro z4
        rw [z4] at c2
        cases c2
        exact S3.inj j k t u es fs p hjk z1 z2 b1 b2
    | some d =>
      have hlt : i < items.length := (List.getElem?_eq_some_iff.mp q2).1
      obtain ⟨go, yl⟩ := w1 d q2
      have ed : items.drop i = d :: items.drop (i + 1) := by
        rw [List.drop_eq_getElem_cons hlt, (List.getElem?_eq_some_iff.mp q2).2]
      rw [ed] at e3
      unfold lcGo at e3
      refine .inr ⟨go, fun H4 => ∃ acc ρ' P' xs, SRep K τ (Dl :: A0) H4 (wipe σ vs) ρ' P' ∧ Stp K H1 P1 H4 P' ∧ H4 Dl = some (.lst xs) ∧ Rps K (hid (P' ++ Dl :: A0) H4) xs acc ∧ lcGo bind ft fe vs (items.drop (i + 1)) acc ρ' = .ok (.frs accF) ρF,
        fun H4 ⟨acc4, ρ4, P4, xs4, k1, k2, k3, k4, k5⟩ => ⟨items.length - (i + 1), by omega, rfl, hlt, acc4, ρ4, P4, xs4, k1, k2, k3, k4, k5⟩, fun x H4 y => ?_⟩
      obtain ⟨ex, rx⟩ := yl x H4 y
      have rx := rx S3.tr
      have S4 := S3.grow ex.gr
      have t4 : Stp K H' P' H4 P' := Stp.ext ex
      cases q3 : bind d ρ' with
      | none => rw [q3] at e3; cases e3
      | some ρ5 =>
        rw [q3] at e3
        dsimp only at e3
        obtain ⟨σ5, S5, l5, o5, k5⟩ := hg τ (Dl :: A0) P' H4 (wipe σ vs) ρ' ρ5 x d S4 rx q3
        refine k5 _ ?_
        rw [wipe_length] at l5
        have w5 : wipe σ5 vs = wipe σ vs := wipe_same l5 fun j hj => o5 j fun z => hj (hjs j z)
        refine ⟨w5, ?_⟩
        have np : Dl ∉ P' := fun z => S3.dj Dl z List.mem_cons_self
        cases q4 : ft ρ5 with
        | err cc dd => rw [q4] at e3; cases e3
        | st => rw [q4] at e3; cases e3
        | ok wt ρ6 =>
          rw [q4] at e3
          dsimp only at e3
          refine cde_any S5 q4 fun v6 H6 P6 t6 S6 r6 => ?_
          have h6 : H6 Dl = some (.lst xs) := t6.kp Dl _ np (ex _ _ h3) (fun _ z => nomatch z)
          have r36 : Rps K (hid (P6 ++ Dl :: A0) H6) xs acc := r3.stp (t4.trans t6)
          split at e3
          · rename_i qb
            rw [qb] at r6
            refine ⟨true, rp_bool r6, iteT ?_⟩
            cases q5 : fe ρ6 with
            | err cc dd => rw [q5] at e3; cases e3
            | st => rw [q5] at e3; cases e3
            | ok we ρ7 =>
              rw [q5] at e3
              dsimp only at e3
              by_cases hz : acc.length < sizeLine
              · rw [if_pos hz] at e3
                refine cde_any S6 q5 fun v7 H7 P7 t7 S7 r7 => ?_
                have np6 : Dl ∉ P6 := fun z => S6.dj Dl z List.mem_cons_self
                have h7 : H7 Dl = some (.lst xs) := t7.kp Dl _ np6 h6 (fun _ z => nomatch z)
                have r37 : Rps K (hid (P7 ++ Dl :: A0) H7) xs acc := r36.stp t7
                have eh : hid (P7 ++ Dl :: A0) (L2.upd H7 Dl (.lst (xs ++ [v7]))) = hid (P7 ++ Dl :: A0) H7 := hid_upd_in (List.mem_append_right _ List.mem_cons_self)
                refine ⟨xs, h7, by rw [r37.length]; exact hz, acc ++ [we.d], wipeE ρ7 vs, P7, xs ++ [v7], ?_, stp_upd (t3.trans (t4.trans (t6.trans t7))) hD (.inr ⟨_, h7⟩), upd_same, ?_, e3⟩
                · exact (S7.updH List.mem_cons_self h7).wiped (fun j hj => by rw [wipe_out hj, o5 j fun z => hj (hjs j z), wipe_out hj]) (by rw [wipe_length]; exact l5.symm)
                · rw [eh]
                  exact r37.app (.one r7)
              · rw [if_neg hz] at e3
                cases e3
          · rename_i qb
            rw [qb] at r6
            refine ⟨false, rp_bool r6, iteF ?_⟩
            refine ⟨acc, wipeE ρ6 vs, P6, xs, ?_, t3.trans (t4.trans t6), h6, r36, e3⟩
            exact S6.wiped (fun j hj => by rw [wipe_out hj, o5 j fun z => hj (hjs j z), wipe_out hj]) (by rw [wipe_length]; exact l5.symm)
          · cases e3
end
section
variable {X : Cx} {E : XK} {elt tg iter : Expr} {ifs : List Expr} {scope : Scope} {own : List (Str × Nat)} {pos : Pos} {src : Env → RI} {bind : D → Env → Option Env} {ft fe : Env → RE} {g : TG} {js : List Nat}
/-- [elt for tg in iter if ifs] -/
theorem de_lc (hc : X.calm = true) (hN : X.N.Nodup) (hi : DI X E tg iter src) (ok : BlkOk X.N X.env.scope scope own) (hb : GtOk X.K g bind js) (hjs : ∀ j ∈ js, j ∈ own.map (·.2))
    (hg : ∀ (s : Shared) (H : Hp) (C : Addr) (cl : List (Str × Addr)) (fp : List Addr), PG (X.blk s H scope (compEnvC scope cl C X.env) fp) tg g) (ht : ∀ (s : Shared) (H : Hp) (C : Addr) (cl : List (Str × Addr)) (fp : List Addr), DTs (X.blk s H scope (compEnvC scope cl C X.env) fp) E0 ifs ft)
    (he : ∀ (s : Shared) (H : Hp) (C : Addr) (cl : List (Str × Addr)) (fp : List Addr), DE (X.blk s H scope (compEnvC scope cl C X.env) fp) E0 elt fe) (hs : ∀ x, foldedSetIterable iter X.env x = pure x := by intro _; rfl) :
    DE X E (.ListComp elt [⟨tg, iter, ifs, 0⟩] scope pos) (fLc src bind ft fe (own.map (·.2))) :=
  ⟨PE.weak (pe_lc hc hN hi.pi ok hg (fun s H C cl fp => (ht s H C cl fp).pts) (fun s H C cl fp => (he s H C cl fp).pe) hs) fun σ H Q h => lc_of hb hjs h⟩
end
end DL
/-! D6: statements. -/
namespace DL
open PySem L2 PyProof.Rows

inductive RS where
  | nx (ρ : Env)
  | ret (w : W) (ρ : Env)
  | bk (ρ : Env)
  | ct (ρ : Env)
  | err (c : Addr) (d : D)
  | st
/-- what follows a statement of that outcome -/
def CDS (K : PySem.W.Frag) (E : XK) (τ : Nat → Addr) (A0 : List Addr) (H : Hp) (P : List Addr) (o : RS) (Dn : Ends) : Prop :=
  match o with
  | .nx ρ' => ∀ σ' H' P', Stp K H P H' P' → SRep K τ A0 H' σ' ρ' P' → Dn.nx σ' H'
  | .bk ρ' => ∀ σ' H' P', Stp K H P H' P' → SRep K τ A0 H' σ' ρ' P' → Dn.bk σ' H'
  | .ct ρ' => ∀ σ' H' P', Stp K H P H' P' → SRep K τ A0 H' σ' ρ' P' → Dn.ct σ' H'
  | .ret (.pu d) ρ' => ∀ v σ' H' P', Stp K H P H' P' → SRep K τ A0 H' σ' ρ' P' → Rp K (hid (P' ++ A0) H') v d → Dn.rt v H'
  | .ret (.frs ds) ρ' => ∀ p xs σ' H' P', Stp K H P H' P' → (p ∈ P ∨ H p = none) → p ∉ P' → p ∉ A0 → SRep K τ (p :: A0) H' σ' ρ' P' → H' p = some (.lst xs) → Rps K (hid (P' ++ p :: A0) H') xs ds → Dn.rt (.ref p) H'
  | .err c d => ∀ dx v H' P', Stp K H P H' P' → (H dx = none ∧ H' dx = some (.xd [(("value" : Str), v)])) → Rp K (hid (P' ++ A0) H') v d → E (.ref c) (some dx) H'
  | .st => False
def tDS (K : PySem.W.Frag) (E : XK) (f : Env → RS) : TS := fun Dn σ H => ∃ τ A0 P ρ, SRep K τ A0 H σ ρ P ∧ CDS K E τ A0 H P (f ρ) Dn
structure DS (X : Cx) (E : XK) (s : Stmt) (f : Env → RS) : Prop where
  ps : PS X s (tDS X.K E f)
structure DSs (X : Cx) (E : XK) (s : List Stmt) (f : Env → RS) : Prop where
  pss : PSs X s (tDS X.K E f)
def sSeq (f g : Env → RS) : Env → RS := fun ρ => match f ρ with
  | .nx ρ1 => g ρ1
  | o => o
section
variable {K : PySem.W.Frag} {E : XK} {τ : Nat → Addr} {A0 P : List Addr} {H : Hp} {σ : L2.St} {ρ : Env} {Dn : Ends}
theorem CDS.stp {o : RS} {H' : Hp} {P' : List Addr} (t : Stp K H P H' P') (h : CDS K E τ A0 H P o Dn) : CDS K E τ A0 H' P' o Dn := by
  cases o with
  | nx ρ' => exact fun σ' H2 P2 t2 S => h σ' H2 P2 (t.trans t2) S
  | bk ρ' => exact fun σ' H2 P2 t2 S => h σ' H2 P2 (t.trans t2) S
  | ct ρ' => exact fun σ' H2 P2 t2 S => h σ' H2 P2 (t.trans t2) S
  | ret w ρ' =>
    cases w with
    | pu d => exact fun v σ' H2 P2 t2 S r => h v σ' H2 P2 (t.trans t2) S r
    | frs ds => exact fun p xs σ' H2 P2 t2 hn n1 n2 S hl hr => h p xs σ' H2 P2 (t.trans t2) (hn.elim (t.nw p) fun z => .inr (t.al p z)) n1 n2 S hl hr
  | err c d => exact fun dx v H2 P2 t2 hx hr => h dx v H2 P2 (t.trans t2) ⟨t.al _ hx.1, hx.2⟩ hr
  | st => exact h
/-- with another next -/
theorem CDS.next {o : RS} {D2 : Ends} (h : CDS K E τ A0 H P o D2) (hr : D2.rt = Dn.rt) (hb : D2.bk = Dn.bk) (hc : D2.ct = Dn.ct) (hn : ∀ ρ', o = .nx ρ' → CDS K E τ A0 H P o Dn) : CDS K E τ A0 H P o Dn := by
  cases o with
  | nx ρ' => exact hn ρ' rfl
  | bk ρ' => exact fun σ' H' P' t S => by rw [← hb]; exact h σ' H' P' t S
  | ct ρ' => exact fun σ' H' P' t S => by rw [← hc]; exact h σ' H' P' t S
  | ret w ρ' =>
    cases w with
    | pu d => exact fun v σ' H' P' t S r => by rw [← hr]; exact h v σ' H' P' t S r
    | frs ds => exact fun p xs σ' H' P' t n n1 n2 S hl r => by rw [← hr]; exact h p xs σ' H' P' t n n1 n2 S hl r
  | err c d => exact h
  | st => exact h
theorem seq_of {f g : Env → RS} (h : tDS K E (sSeq f g) Dn σ H) : tSeq (tDS K E f) (tDS K E g) Dn σ H := by
  obtain ⟨τ, A0, P, ρ, S, c⟩ := h
  refine ⟨τ, A0, P, ρ, S, ?_⟩
  unfold sSeq at c
  cases q : f ρ with
  | nx ρ1 =>
    rw [q] at c
    exact fun σ' H' P' t S' => ⟨τ, A0, P', ρ1, S', CDS.stp t c⟩
  | bk ρ' => rw [q] at c; exact c
  | ct ρ' => rw [q] at c; exact c
  | ret w ρ' =>
    rw [q] at c
    cases w with
    | pu d => exact c
    | frs ds => exact c
  | err cc d => rw [q] at c; exact c
  | st => rw [q] at c; exact c
theorem tds_nx (h : tDS K E .nx Dn σ H) : Dn.nx σ H := by
  obtain ⟨τ, A0, P, ρ, S, c⟩ := h
  exact c σ H P (Stp.rfl H P) S
end
section
variable {X : Cx} {E : XK} {s : Stmt} {rest a b : List Stmt} {e : Expr} {f g : Env → RS} {fe fc : Env → RE} {pos : Pos}
theorem dss_nil : DSs X E [] .nx := ⟨PSs.weak pss_nil fun _ _ _ h => tds_nx h⟩
theorem dss_cons (h1 : DS X E s f) (h2 : DSs X E rest g) : DSs X E (s :: rest) (sSeq f g) := ⟨PSs.weak (pss_cons h1.ps h2.pss) fun _ _ _ h => seq_of h⟩
theorem dss_one (h1 : DS X E s f) : DSs X E [s] f := ⟨pss_one h1.ps⟩
theorem ds_pass : DS X E (.Pass pos) .nx := ⟨PS.weak ps_pass fun _ _ _ h => tds_nx h⟩
theorem ds_break : DS X E (.Break pos) .bk := ⟨PS.weak ps_break fun Dn σ H ⟨τ, A0, P, ρ, S, c⟩ => c σ H P (Stp.rfl H P) S⟩
theorem ds_continue : DS X E (.Continue pos) .ct := ⟨PS.weak ps_continue fun Dn σ H ⟨τ, A0, P, ρ, S, c⟩ => c σ H P (Stp.rfl H P) S⟩
/-- an expression, then what its value makes -/
def sE (fa : Env → RE) (k : W → Env → RS) : Env → RS := fun ρ => match fa ρ with
  | .ok w ρ1 => k w ρ1
  | .err c d => .err c d
  | .st => .st
def sDrop (fa : Env → RE) : Env → RS := sE fa fun _ ρ => .nx ρ
def sRet (fa : Env → RE) : Env → RS := sE fa fun w ρ => .ret w ρ
/-- return x, x an own list: it goes out as a new one -/
def sIf (fc : Env → RE) (f g : Env → RS) : Env → RS := sE fc fun w ρ => match w.d with
  | .bool true => f ρ
  | .bool false => g ρ
  | _ => .st
def sPut (i : Nat) (fa : Env → RE) : Env → RS := sE fa fun w ρ => .nx (ρ.set i (some (.pu w.d)))
theorem ds_drop (he : DE X E e fe) (hs : swapsWith e none pos.line X.env = pure false := by rfl) : DS X E (.Expr e pos) (sDrop fe) := by
  refine ⟨PS.weak (ps_expr he.pe hs) fun Dn σ H ⟨τ, A0, P, ρ, S, c⟩ => ⟨τ, A0, P, ρ, S, CDE.toD ?_⟩⟩
  unfold sDrop sE at c
  cases q : fe ρ with
  | ok w ρ1 => rw [q] at c; exact fun v H' P' t S' r => c σ H' P' t S'
  | err cc d => rw [q] at c; exact c
  | st => rw [q] at c; exact c
theorem ds_ret (he : DE X E e fe) : DS X E (.Return (some e) pos) (sRet fe) := by
  refine ⟨PS.weak (ps_ret he.pe) fun Dn σ H ⟨τ, A0, P, ρ, S, c⟩ => ⟨τ, A0, P, ρ, S, ?_⟩⟩
  unfold sRet sE at c
  cases q : fe ρ with
  | ok w ρ1 =>
    rw [q] at c
    cases w with
    | pu d => exact fun v H' P' t S' r => c v σ H' P' t S' r
    | frs ds => exact fun p xs H' P' t n n1 n2 S' hl r => c p xs σ H' P' t (.inr n) n1 n2 S' hl r
  | err cc d => rw [q] at c; exact c
  | st => rw [q] at c; exact c
theorem ds_retN : DS X E (.Return none pos) fun ρ => .ret (.pu .none) ρ :=
  ⟨PS.weak ps_retN fun Dn σ H ⟨τ, A0, P, ρ, S, c⟩ => c .non σ H P (Stp.rfl H P) S .non⟩
theorem ds_put {i : Nat} {x : Str} {pos' : Pos} (hN : X.N.Nodup) (hi : X.N[i]? = some x) (hx : Loc X.env.scope x) (he : DE X E e fe) (hs : swapsWith e (some (.Name x pos')) pos.line X.env = pure false := by rfl) (hf : X.fn x = true ∨ X.env.scope.names.lookup x = some .local := by first | exact .inl rfl | exact .inr rfl | assumption) :
    DS X E (.Assign [.Name x pos'] e pos) (sPut i fe) := by
  refine ⟨PS.weak (ps_set hN hi hx he.pe hs hf) fun Dn σ H ⟨τ, A0, P, ρ, S, c⟩ => ⟨τ, A0, P, ρ, S, CDE.toD ?_⟩⟩
  unfold sPut sE at c
  cases q : fe ρ with
  | ok w ρ1 => rw [q] at c; exact fun v H' P' t S' r => c _ H' P' t (S'.put r i)
  | err cc d => rw [q] at c; exact c
  | st => rw [q] at c; exact c
theorem ds_if {c : Expr} (hc : DT X E c fc) (ha : DSs X E a f) (hb : DSs X E b g) : DS X E (.If c a b pos) (sIf fc f g) := by
  refine ⟨PS.weak (ps_if hc.pt ha.pss hb.pss) fun Dn σ H ⟨τ, A0, P, ρ, S, cc⟩ => ⟨τ, A0, P, ρ, S, CDE.toD ?_⟩⟩
  unfold sIf sE at cc
  cases q : fc ρ with
  | ok w ρ1 =>
    rw [q] at cc
    dsimp only at cc
    intro v H' P' t S' r
    split at cc
    · rename_i qb
      rw [qb] at r
      exact ⟨true, rp_bool r, iteT ⟨τ, A0, P', ρ1, S', CDS.stp t cc⟩⟩
    · rename_i qb
      rw [qb] at r
      exact ⟨false, rp_bool r, iteF ⟨τ, A0, P', ρ1, S', CDS.stp t cc⟩⟩
    · exact cc.elim
  | err ec d => rw [q] at cc; exact cc
  | st => rw [q] at cc; exact cc
end

/-! ### an own list: made, grown, stored into -/
section
variable {K : PySem.W.Frag} {E : XK} {τ : Nat → Addr} {A0 P : List Addr} {H : Hp} {σ : L2.St} {ρ : Env} {Dn : Ends}
/-- a slot is forgotten -/
theorem SRep.off (S : SRep K τ A0 H σ ρ P) (i : Nat) (o : Option V) : SRep K τ A0 H (σ.set i o) (ρ.set i none) P := by
  have g : ∀ {m : Nat} {s : Sl}, (ρ.set i none)[m]? = some (some s) → i ≠ m ∧ ρ[m]? = some (some s) := fun {m s} z => by
    by_cases hm : i = m
    · subst hm
      by_cases hi : i < ρ.length
      · rw [List.getElem?_set_self hi] at z; cases z
      · rw [List.getElem?_eq_none (by simpa using hi)] at z; cases z
    · rw [List.getElem?_set_ne hm] at z
      exact ⟨hm, z⟩
  refine ⟨fun j m d q => ?_, fun j t ds q => ?_, fun j k t u es fs p hjk e1 e2 e3 => ?_, S.tr, by simpa using S.len, S.dj, S.tb, fun j g2 q => ?_⟩
  rotate_right
  · obtain ⟨hj, q1⟩ := g q
    obtain ⟨n1, n2, n3⟩ := S.ns j g2 q1
    exact ⟨n1.gr (List.getElem?_set_ne hj) fun _ _ _ z => z, fun k h z => n2 k h (g z).2, fun k t ds z => n3 k t ds (g z).2⟩
  · obtain ⟨hj, q⟩ := g q
    rw [List.getElem?_set_ne hj]
    exact S.pu j m d q
  · obtain ⟨hj, q⟩ := g q
    rw [List.getElem?_set_ne hj]
    exact S.own j t ds q
  · obtain ⟨hj, q1⟩ := g e1
    obtain ⟨hk, q2⟩ := g e2
    rw [List.getElem?_set_ne hj] at e3
    rw [List.getElem?_set_ne hk]
    exact S.inj j k t u es fs p hjk q1 q2 e3
/-- the slot's own list goes out -/
theorem SRep.out (S : SRep K τ A0 H σ ρ P) {i : Nat} {t : Nat} {ds : List D} (hi : ρ[i]? = some (some (.own t ds))) :
    ∃ p xs P', σ[i]? = some (some (.ref p)) ∧ p ∈ P ∧ p ∉ P' ∧ p ∉ A0 ∧ (∀ a ∈ P', a ∈ P) ∧ H p = some (.lst xs) ∧ SRep K τ (p :: A0) H (σ.set i none) (ρ.set i none) P' ∧ Rps K (hid (P' ++ p :: A0) H) xs ds := by
  obtain ⟨p, xs, h1, h2, h3, h4, h5⟩ := S.own i t ds hi
  have hA : p ∉ A0 := S.dj p h2
  have T := S.off i none
  have hl : i < ρ.length := (List.getElem?_eq_some_iff.mp hi).1
  have e : hid (P.filter (fun a => decide (a ≠ p)) ++ p :: A0) H = hid (P ++ A0) H := hid_swap fun a => by
    simp only [List.mem_append, List.mem_cons, List.mem_filter, decide_eq_true_eq]
    constructor
    · rintro (z | z | z)
      · exact .inl z.1
      · exact .inl (by rw [z]; exact h2)
      · exact .inr z
    · rintro (z | z)
      · by_cases ea : a = p
        · exact .inr (.inl ea)
        · exact .inl ⟨z, ea⟩
      · exact .inr (.inr z)
  refine ⟨p, xs, P.filter (fun a => decide (a ≠ p)), h1, h2, fun z => (of_decide_eq_true (List.mem_filter.mp z).2) rfl, hA, fun a z => (List.mem_filter.mp z).1, h3, ⟨fun j m d q => ?_, fun j u es q => ?_, T.inj, fun a z => ?_, T.len, fun q hq z => ?_, T.tb, fun j g q => ?_⟩, by rw [e]; exact h4⟩
  rotate_right
  · by_cases hj : i = j
    · subst hj
      rw [List.getElem?_set_self hl] at q
      cases q
    · rw [List.getElem?_set_ne hj] at q
      exact absurd hi ((S.ns j g q).2.2 i t ds)
  · rw [hs_eq e]
    exact T.pu j m d q
  · rw [e]
    obtain ⟨b, ys, b1, b2, b3, b4, b5⟩ := T.own j u es q
    have hj : i ≠ j := fun z => by
      subst z
      rw [List.getElem?_set_self hl] at q
      cases q
    refine ⟨b, ys, b1, List.mem_filter.mpr ⟨b2, decide_eq_true fun z => ?_⟩, b3, b4, b5⟩
    subst z
    rw [List.getElem?_set_ne hj] at q b1
    exact S.inj i j t u ds es b hj hi q h1 b1
  · rcases List.mem_append.mp z with z | z
    · exact S.tr a (List.mem_append_left _ (List.mem_filter.mp z).1)
    · rcases List.mem_cons.mp z with z | z
      · rw [z, h3]; exact fun q => nomatch q
      · exact S.tr a (List.mem_append_right _ z)
  · rcases List.mem_cons.mp z with z | z
    · exact (of_decide_eq_true (List.mem_filter.mp hq).2) z
    · exact S.dj q (List.mem_filter.mp hq).1 z
/-- a hidden new list becomes the slot's own -/
theorem SRep.own_ {p : Addr} {xs : List V} {ds : List D} (S : SRep K τ (p :: A0) H σ ρ P) (hA : p ∉ A0) (h : H p = some (.lst xs)) (r : Rps K (hid (P ++ p :: A0) H) xs ds) (i : Nat) (hnn : noN ρ = true) : SRep K τ A0 H (σ.set i (some (.ref p))) (ρ.set i (some (.own 0 ds))) (p :: P) := by
  have T := S.off i (some (.ref p))
  have e : hid (P ++ p :: A0) H = hid (p :: P ++ A0) H := hid_swap fun a => by
    simp only [List.mem_append, List.mem_cons, List.cons_append]
    constructor
    · rintro (z | z | z)
      · exact .inr (.inl z)
      · exact .inl z
      · exact .inr (.inr z)
    · rintro (z | z | z)
      · exact .inr (.inl z)
      · exact .inl z
      · exact .inr (.inr z)
  have nP : p ∉ P := fun z => S.dj p z List.mem_cons_self
  have old : ∀ {m : Nat} {s : Sl}, i ≠ m → (ρ.set i (some (.own 0 ds)))[m]? = some (some s) → (ρ.set i Option.none)[m]? = some (some s) := fun {m s} hm z => by
    rw [List.getElem?_set_ne hm] at z ⊢
    exact z
  have oldσ : ∀ {m : Nat} {q : Addr} {t : Nat} {gs : List D}, i ≠ m → (ρ.set i Option.none)[m]? = some (some (.own t gs)) → (σ.set i (some (.ref p)))[m]? = some (some (.ref q)) → q ≠ p := fun {m q t gs} hm z1 z2 z3 => by
    obtain ⟨p2, _, b1, b2, _⟩ := T.own m t gs z1
    rw [b1] at z2
    cases z2
    exact nP (by rw [← z3]; exact b2)
  have atI_ : ∀ {s : Sl}, (ρ.set i (some (.own 0 ds)))[i]? = some (some s) → i < ρ.length ∧ s = .own 0 ds := fun {s} z => by
    by_cases hi : i < ρ.length
    · rw [List.getElem?_set_self hi] at z
      exact ⟨hi, (Option.some.inj (Option.some.inj z)).symm⟩
    · rw [List.getElem?_eq_none (by simpa using hi)] at z; cases z
  refine ⟨fun j m d q => ?_, fun j t es q => ?_, fun j k t u es fs b hjk e1 e2 e3 e4 => ?_, fun a z => ?_, by simpa using S.len, fun q hq z => ?_, S.tb, fun j g q => ?_⟩
  rotate_right
  · by_cases hj : i = j
    · subst hj
      exact nomatch (atI_ q).2
    · rw [List.getElem?_set_ne hj] at q
      exact (noN_of hnn q).elim
  · by_cases hj : i = j
    · subst hj
      exact nomatch (atI_ q).2
    · obtain ⟨v, b1, b2⟩ := T.pu j m d (old hj q)
      exact ⟨v, b1, by rw [← hs_eq e]; exact b2⟩
  · by_cases hj : i = j
    · subst hj
      obtain ⟨hi, q2⟩ := atI_ q
      cases q2
      exact ⟨p, xs, List.getElem?_set_self (by rw [S.len]; exact hi), List.mem_cons_self, h, by rw [← e]; exact r, .inl rfl⟩
    · obtain ⟨b, ys, b1, b2, b3, b4, b5⟩ := T.own j t es (old hj q)
      exact ⟨b, ys, b1, List.mem_cons_of_mem _ b2, b3, by rw [← e]; exact b4, b5⟩
  · by_cases hj : i = j
    · subst hj
      obtain ⟨hi, _⟩ := atI_ e1
      rw [List.getElem?_set_self (by rw [S.len]; exact hi)] at e3
      cases e3
      exact oldσ hjk (old hjk e2) e4 rfl
    · by_cases hk : i = k
      · subst hk
        obtain ⟨hi, _⟩ := atI_ e2
        rw [List.getElem?_set_self (by rw [S.len]; exact hi)] at e4
        cases e4
        exact oldσ hj (old hj e1) e3 rfl
      · exact T.inj j k t u es fs b hjk (old hj e1) (old hk e2) e3 e4
  · rcases List.mem_cons.mp z with z | z
    · rw [z, h]; exact fun q => nomatch q
    · rcases List.mem_append.mp z with z | z
      · exact S.tr a (List.mem_append_left _ z)
      · exact S.tr a (List.mem_append_right _ (List.mem_cons_of_mem _ z))
  · rcases List.mem_cons.mp hq with q2 | q2
    · rw [q2] at z; exact hA z
    · exact S.dj q q2 (List.mem_cons_of_mem _ z)
/-- an own list of ours changes: its items are borne -/
theorem SRep.chg {i t : Nat} {ds es : List D} {p : Addr} {ys : List V} (S : SRep K τ A0 H σ ρ P) (hi : ρ[i]? = some (some (.own t ds))) (hp : σ[i]? = some (some (.ref p))) (r : Rps K (hid (P ++ A0) H) ys es) :
    SRep K τ A0 (L2.upd H p (.lst ys)) σ (ρ.set i (some (.own t es))) P ∧ p ∈ P := by
  obtain ⟨p2, xs, b1, b2, b3, b4, b5⟩ := S.own i t ds hi
  rw [hp] at b1
  cases b1
  have hl : i < ρ.length := (List.getElem?_eq_some_iff.mp hi).1
  have e : hid (P ++ A0) (L2.upd H p (.lst ys)) = hid (P ++ A0) H := hid_upd_in (List.mem_append_left _ b2)
  have back : ∀ {j u : Nat} {gs : List D}, (ρ.set i (some (.own t es)))[j]? = some (some (.own u gs)) → ∃ hs, ρ[j]? = some (some (.own u hs)) := fun {j u gs} z => by
    by_cases hj : i = j
    · subst hj
      rw [List.getElem?_set_self hl] at z
      cases z
      exact ⟨_, hi⟩
    · rw [List.getElem?_set_ne hj] at z
      exact ⟨_, z⟩
  refine ⟨⟨fun j m d q => ?_, fun j u gs q => ?_, fun j k u u2 fs gs b hjk e1 e2 e3 => ?_, fun a z n => ?_, by simpa using S.len, S.dj, fun b hb => tab_lst b3 (S.tb b hb), fun j g q => ?_⟩, b2⟩
  rotate_right
  · by_cases hj : i = j
    · subst hj
      rw [List.getElem?_set_self hl] at q
      cases q
    · rw [List.getElem?_set_ne hj] at q
      exact absurd hi ((S.ns j g q).2.2 i t ds)
  · rw [hs_eq e]
    by_cases hj : i = j
    · subst hj
      rw [List.getElem?_set_self hl] at q
      cases q
    · rw [List.getElem?_set_ne hj] at q
      exact S.pu j m d q
  · rw [e]
    by_cases hj : i = j
    · subst hj
      rw [List.getElem?_set_self hl] at q
      cases q
      exact ⟨p, ys, hp, b2, upd_same, r, b5⟩
    · rw [List.getElem?_set_ne hj] at q
      obtain ⟨b, zs, c1, c2, c3, c4, c5⟩ := S.own j u gs q
      refine ⟨b, zs, c1, c2, ?_, c4, c5⟩
      rw [upd_ne fun z => ?_]
      · exact c3
      · subst z
        exact S.inj i j t u ds gs b hj hi q hp c1
  · obtain ⟨_, q1⟩ := back e1
    obtain ⟨_, q2⟩ := back e2
    exact S.inj j k u u2 _ _ b hjk q1 q2 e3
  · by_cases ha : a = p
    · rw [ha, upd_same] at n; cases n
    · rw [upd_ne ha] at n
      exact S.tr a z n
theorem stp_own {p : Addr} {o : HO} {xs : List V} (hp : p ∈ P) (hl : H p = some (.lst xs)) : Stp K H P (L2.upd H p o) P := ⟨fun a u n e _ => by rw [upd_ne (fun z => n (by rw [z]; exact hp))]; exact e, fun _ z => .inl z, fun a e => by
  by_cases ha : a = p
  · rw [ha, upd_same] at e; cases e
  · rw [upd_ne ha] at e; exact e, fun z b hb => tab_lst hl (z b hb)⟩
end
section
variable {X : Cx} {E : XK} {e : Expr} {fe : Env → RE} {pos : Pos}
/-- x = a new list, x to be changed later on -/
def sOwn (i : Nat) (fa : Env → RE) : Env → RS := sE fa fun w ρ => match w with
  | .frs ds => if noN ρ then .nx (ρ.set i (some (.own 0 ds))) else .st
  | _ => .st
theorem ds_own {i : Nat} {x : Str} {pos' : Pos} (hN : X.N.Nodup) (hi : X.N[i]? = some x) (hx : Loc X.env.scope x) (he : DE X E e fe) (hs : swapsWith e (some (.Name x pos')) pos.line X.env = pure false := by rfl) (hf : X.fn x = true ∨ X.env.scope.names.lookup x = some .local := by first | exact .inl rfl | exact .inr rfl | assumption) :
    DS X E (.Assign [.Name x pos'] e pos) (sOwn i fe) := by
  refine ⟨PS.weak (ps_set hN hi hx he.pe hs hf) fun Dn σ H ⟨τ, A0, P, ρ, S, c⟩ => ⟨τ, A0, P, ρ, S, ?_⟩⟩
  unfold sOwn sE at c
  cases q : fe ρ with
  | ok w ρ1 =>
    rw [q] at c
    cases w with
    | pu d => exact c.elim
    | frs ds =>
      dsimp only at c
      by_cases hnn : noN ρ1 = true
      · rw [if_pos hnn] at c
        exact fun p xs H' P' t n n1 n2 S' hl r => c _ H' (p :: P') ⟨t.kp, fun a z => (List.mem_cons.mp z).elim (fun z => .inr (by rw [z]; exact n)) (t.nw a), t.al, t.tb⟩ (S'.own_ n2 hl r i hnn)
      · rw [if_neg hnn] at c
        exact c.elim
  | err cc d => rw [q] at c; exact c
  | st => rw [q] at c; exact c
/-- return x, x an own list: it goes out as a new one -/
def sRetOwn (i : Nat) : Env → RS := fun ρ => match ρ[i]? with
  | some (some (.own _ ds)) => .ret (.frs ds) (ρ.set i none)
  | _ => .st
theorem ds_retOwn {i : Nat} {e : Expr} (h : PE X e (tVar i)) : DS X E (.Return (some e) pos) (sRetOwn i) := by
  refine ⟨PS.weak (ps_ret h) fun Dn σ H ⟨τ, A0, P, ρ, S, c⟩ => ?_⟩
  unfold sRetOwn at c
  split at c
  · rename_i t ds q
    obtain ⟨p, xs, P', h1, h2, h3, h4, h5, h6, h7, h8⟩ := S.out q
    exact ⟨.ref p, h1, c p xs _ H P' ⟨fun _ _ _ z _ => z, fun a z => .inl (h5 a z), fun _ z => z, fun z => z⟩ (.inl h2) h3 h4 h7 h6 h8⟩
  · exact c.elim
/-- x.append(e), x an own list -/
def sApp (i : Nat) (fa : Env → RE) : Env → RS := fun ρ0 => match ρ0[i]? with
  | some (some (.own _ _)) => sE fa (fun w ρ => match ρ[i]? with
    | some (some (.own t ds)) => if ds.length < sizeLine then .nx (ρ.set i (some (.own t (ds ++ [w.d])))) else .st
    | _ => .st) ρ0
  | _ => .st
theorem ds_app {i : Nat} {call : Expr} (hm : ∀ te, PE X e te → PE X call (tBM X.K "list" rAppend (tVar i) (tCons te tNil))) (he : DE X E e fe) (hs : swapsWith call none pos.line X.env = pure false := by rfl) :
    DS X E (.Expr call pos) (sApp i fe) := by
  refine ⟨PS.weak (ps_expr (hm _ he.pe) hs) fun Dn σ H ⟨τ, A0, P, ρ, S, c⟩ => ?_⟩
  unfold sApp at c
  split at c
  · rename_i t0 ds0 q0
    obtain ⟨p, xs, b1, b2, b3, b4, b5⟩ := S.own i t0 ds0 q0
    refine ⟨.ref p, b1, .inl ⟨rfl, xs, .inl (.inl b3)⟩, τ, A0, P, ρ, S, CDE.toD ?_⟩
    unfold sE at c
    cases q : fe ρ with
    | ok w ρ1 =>
      rw [q] at c
      dsimp only at c
      intro v H' P' st S' r
      split at c
      · rename_i t ds q1
        by_cases hz : ds.length < sizeLine
        · rw [if_pos hz] at c
          obtain ⟨p1, ys, d1, d2, d3, d4, d5⟩ := S'.own i t ds q1
          rw [b1] at d1
          cases d1
          obtain ⟨S2, hp⟩ := S'.chg q1 b1 (d4.app (.one r))
          exact ⟨p, ys, v, rfl, rfl, d3, by rw [d4.length]; exact hz, c σ _ P' (st.trans (stp_own hp d3)) S2⟩
        · rw [if_neg hz] at c
          exact c.elim
      · exact c.elim
    | err cc d => rw [q] at c; exact c
    | st => rw [q] at c; exact c
  · exact c.elim
end

/-! ### for -/
def forGo (bind : D → Env → Option Env) (body : Env → RS) : List D → Env → RS
  | [], ρ => .nx ρ
  | d :: r, ρ => match bind d ρ with
    | none => .st
    | some ρ1 => match body ρ1 with
      | .nx ρ2 => forGo bind body r ρ2
      | .ct ρ2 => forGo bind body r ρ2
      | .bk ρ2 => .nx ρ2
      | o => o
def sFor (src : Env → RI) (bind : D → Env → Option Env) (body : Env → RS) : Env → RS := fun ρ => match src ρ with
  | .ok items ρ1 => forGo bind body items ρ1
  | .err c d => .err c d
  | .st => .st
section
variable {K : PySem.W.Frag} {E : XK} {τ : Nat → Addr} {A0 P : List Addr} {H : Hp} {σ : L2.St} {ρ : Env} {Dn : Ends}
theorem for_of {src : Env → RI} {bind : D → Env → Option Env} {body : Env → RS} {g : TG} {js : List Nat} (hg : GtOk K g bind js) (h : tDS K E (sFor src bind body) Dn σ H) : tFor (tDI K E src) g (tDS K E body) Dn σ H := by
  obtain ⟨τ, A0, P, ρ, S, c⟩ := h
  refine ⟨τ, A0, P, ρ, S, ?_⟩
  unfold sFor at c
  cases q : src ρ with
  | err cc d => rw [q] at c; exact c
  | st => rw [q] at c; exact c
  | ok items ρ1 =>
    rw [q] at c
    dsimp only at c
    intro J H1 P1 t1 S1 wk
    have c := CDS.stp t1 c
    refine ⟨fun i m σ' H' => m = items.length - i ∧ i ≤ items.length ∧ ∃ ρ' P', SRep K τ A0 H' σ' ρ' P' ∧ Stp K H1 P1 H' P' ∧ CDS K E τ A0 H' P' (forGo bind body (items.drop i) ρ') Dn,
      ⟨_, rfl, Nat.zero_le _, ρ1, P1, S1, Stp.rfl _ _, c⟩, ?_⟩
    rintro i m σ' H' ⟨rfl, hi, ρ', P', S3, t3, c3⟩
    obtain ⟨w1, w2⟩ := wk A0 i H' P' (fun a z => .inl z) t3
    cases q2 : items[i]? with
    | none =>
      have hle : items.length ≤ i := List.getElem?_eq_none_iff.mp q2
      rw [List.drop_eq_nil_of_le hle] at c3
      exact .inl ⟨w2 hle, c3 σ' H' P' (Stp.rfl _ _) S3⟩
    | some d =>
      have hlt : i < items.length := (List.getElem?_eq_some_iff.mp q2).1
      obtain ⟨go, yl⟩ := w1 d q2
      have ed : items.drop i = d :: items.drop (i + 1) := by
        rw [List.drop_eq_getElem_cons hlt, (List.getElem?_eq_some_iff.mp q2).2]
      rw [ed] at c3
      unfold forGo at c3
      refine .inr ⟨go, fun σ4 H4 => ∃ ρ4 P4, SRep K τ A0 H4 σ4 ρ4 P4 ∧ Stp K H1 P1 H4 P4 ∧ CDS K E τ A0 H4 P4 (forGo bind body (items.drop (i + 1)) ρ4) Dn,
        fun σ4 H4 ⟨ρ4, P4, k1, k2, k3⟩ => ⟨items.length - (i + 1), by omega, rfl, hlt, ρ4, P4, k1, k2, k3⟩, fun x H4 y => ?_⟩
      obtain ⟨ex, rx⟩ := yl x H4 y
      have rx := rx S3.tr
      have S4 := S3.grow ex.gr
      have t4 : Stp K H' P' H4 P' := Stp.ext ex
      cases q3 : bind d ρ' with
      | none => rw [q3] at c3; exact c3.elim
      | some ρ5 =>
        rw [q3] at c3
        dsimp only at c3
        obtain ⟨σ5, S5, l5, o5, k5⟩ := hg τ A0 P' H4 σ' ρ' ρ5 x d S4 rx q3
        refine k5 _ ⟨τ, A0, P', ρ5, S5, ?_⟩
        have c4 := CDS.stp t4 c3
        cases q4 : body ρ5 with
        | nx ρ6 =>
          rw [q4] at c4
          exact fun σ6 H6 P6 t6 S6 => ⟨ρ6, P6, S6, t3.trans (t4.trans t6), CDS.stp t6 c4⟩
        | ct ρ6 =>
          rw [q4] at c4
          exact fun σ6 H6 P6 t6 S6 => ⟨ρ6, P6, S6, t3.trans (t4.trans t6), CDS.stp t6 c4⟩
        | bk ρ6 =>
          rw [q4] at c4
          exact c4
        | ret w ρ6 =>
          rw [q4] at c4
          cases w with
          | pu dd => exact c4
          | frs ds => exact c4
        | err cc dd =>
          rw [q4] at c4
          exact c4
        | st =>
          rw [q4] at c4
          exact c4
end
section
variable {X : Cx} {E : XK} {tg iter : Expr} {bodyS : List Stmt} {pos : Pos} {src : Env → RI} {bind : D → Env → Option Env} {body : Env → RS} {g : TG} {js : List Nat}
theorem ds_for (hp : PassesOwn (model X.prog X.w) X.A X.env X.xe) (hc : X.calm = true) (hi : DI X E tg iter src) (hb : GtOk X.K g bind js) (hg : PG X tg g) (hbody : DSs X E bodyS body) (hs : ∀ x, foldedSetIterable iter X.env x = pure x := by intro _; rfl) :
    DS X E (.For tg iter bodyS [] pos) (sFor src bind body) := ⟨PS.weak (ps_for hp hc hi.pi hg hbody.pss hs) fun Dn σ H h => for_of hb h⟩
end

/-! ### while: so many turns at most -/
def whGo (fc : Env → RE) (body : Env → RS) : Nat → Env → RS
  | 0, _ => .st
  | n + 1, ρ => match fc ρ with
    | .ok w ρ1 => (match w.d with
      | .bool true => (match body ρ1 with
        | .nx ρ2 => whGo fc body n ρ2
        | .ct ρ2 => whGo fc body n ρ2
        | .bk ρ2 => .nx ρ2
        | o => o)
      | .bool false => .nx ρ1
      | _ => .st)
    | .err c d => .err c d
    | .st => .st
section
variable {K : PySem.W.Frag} {E : XK} {τ : Nat → Addr} {A0 P : List Addr} {H : Hp} {σ : L2.St} {ρ : Env} {Dn : Ends}
theorem while_of {fc : Env → RE} {body : Env → RS} {N : Env → Nat} (h : tDS K E (fun ρ => whGo fc body (N ρ) ρ) Dn σ H) : tWhile (tTest (tDE K E fc)) (tDS K E body) Dn σ H := by
  obtain ⟨τ, A0, P, ρ, S, c⟩ := h
  refine ⟨fun m σ' H' => ∃ ρ' P', SRep K τ A0 H' σ' ρ' P' ∧ CDS K E τ A0 H' P' (whGo fc body m ρ') Dn, ⟨N ρ, ρ, P, S, c⟩, ?_⟩
  rintro m σ' H' ⟨ρ', P', S2, c2⟩
  refine ⟨τ, A0, P', ρ', S2, CDE.toD ?_⟩
  cases m with
  | zero => exact c2.elim
  | succ n =>
    unfold whGo at c2
    cases q : fc ρ' with
    | err cc d => rw [q] at c2; exact c2
    | st => rw [q] at c2; exact c2
    | ok w ρ1 =>
      rw [q] at c2
      dsimp only at c2
      intro v H3 P3 t3 S3 r3
      split at c2
      · rename_i qb
        rw [qb] at r3
        refine ⟨true, rp_bool r3, iteT ⟨fun σ4 H4 => ∃ ρ4 P4, SRep K τ A0 H4 σ4 ρ4 P4 ∧ CDS K E τ A0 H4 P4 (whGo fc body n ρ4) Dn, fun σ4 H4 ⟨ρ4, P4, k1, k2⟩ => ⟨n, Nat.lt_succ_self n, ρ4, P4, k1, k2⟩, τ, A0, P3, ρ1, S3, ?_⟩⟩
        have c3 := CDS.stp t3 c2
        cases q4 : body ρ1 with
        | nx ρ6 =>
          rw [q4] at c3
          exact fun σ6 H6 P6 t6 S6 => ⟨ρ6, P6, S6, CDS.stp t6 c3⟩
        | ct ρ6 =>
          rw [q4] at c3
          exact fun σ6 H6 P6 t6 S6 => ⟨ρ6, P6, S6, CDS.stp t6 c3⟩
        | bk ρ6 =>
          rw [q4] at c3
          exact c3
        | ret w ρ6 =>
          rw [q4] at c3
          cases w with
          | pu dd => exact c3
          | frs ds => exact c3
        | err cc dd =>
          rw [q4] at c3
          exact c3
        | st =>
          rw [q4] at c3
          exact c3
      · rename_i qb
        rw [qb] at r3
        exact ⟨false, rp_bool r3, iteF (c2 σ' H3 P3 t3 S3)⟩
      · exact c2.elim
end
theorem ds_while {X : Cx} {E : XK} {c : Expr} {bodyS : List Stmt} {pos : Pos} {fc : Env → RE} {body : Env → RS} (N : Env → Nat) (hp : PassesOwn (model X.prog X.w) X.A X.env X.xe) (hc : DT X E c fc) (hb : DSs X E bodyS body) :
    DS X E (.While c bodyS [] pos) (fun ρ => whGo fc body (N ρ) ρ) := ⟨PS.weak (ps_while hp hc.pt hb.pss) fun Dn σ H h => while_of h⟩
end DL
/-! D7: defs and their calls. -/
namespace DL
open PySem L2 PyProof.Rows

inductive RF where
  | ok (w : W) (bs : List (Nat × List D))
  | err (c : Addr) (d : D)
  | st
def BRep (K : PySem.W.Frag) (τ : Nat → Addr) (A0 : List Addr) (H : Hp) (P : List Addr) (bs : List (Nat × List D)) : Prop :=
  ∀ b ∈ bs, τ b.1 ∈ P ∧ ∃ xs, H (τ b.1) = some (.lst xs) ∧ Rps K (hid (P ++ A0) H) xs b.2
def CDF (K : PySem.W.Frag) (E : XK) (τ : Nat → Addr) (A0 : List Addr) (H : Hp) (P : List Addr) (o : RF) (Q : VK) : Prop :=
  match o with
  | .ok (.pu d) bs => ∀ v H' P', Stp K H P H' P' → BRep K τ A0 H' P' bs → Rp K (hid (P' ++ A0) H') v d → Q v H'
  | .ok (.frs ds) bs => ∀ p xs H' P', Stp K H P H' P' → (p ∈ P ∨ H p = none) → p ∉ P' → p ∉ A0 → BRep K τ (p :: A0) H' P' bs → H' p = some (.lst xs) → Rps K (hid (P' ++ p :: A0) H') xs ds → Q (.ref p) H'
  | .err c d => ∀ dx v H' P', Stp K H P H' P' → (H dx = none ∧ H' dx = some (.xd [(("value" : Str), v)])) → Rp K (hid (P' ++ A0) H') v d → E (.ref c) (some dx) H'
  | .st => False
/-- a def's promise by a function of plain data -/
def spF (K : PySem.W.Frag) (F : List Sl → RF) : Sp := fun vs H Q E => ∃ τ A0 P as, SRep K τ A0 H (vs.map some) (as.map some) P ∧ CDF K E τ A0 H P (F as) Q
def tagOf : Option Sl → Option (Nat × List D)
  | some (.own (t + 1) ds) => some (t + 1, ds)
  | _ => none
def colE (ρ : Env) : List (Nat × List D) := ρ.filterMap tagOf
def fnF (n : Nat) (g : Env → RS) : List Sl → RF := fun as => match g (as.map some ++ List.replicate (n - as.length) none) with
  | .ret w ρ' => if (colE ρ').map (·.1) = (colE (as.map some)).map (·.1) then .ok w (colE ρ') else .st
  | .nx ρ' => if (colE ρ').map (·.1) = (colE (as.map some)).map (·.1) then .ok (.pu .none) (colE ρ') else .st
  | .err c d => .err c d
  | _ => .st
section
variable {K : PySem.W.Frag} {E : XK} {τ : Nat → Addr} {A0 P : List Addr} {H : Hp} {σ : L2.St} {ρ : Env} {Q : VK}
theorem SRep.col (S : SRep K τ A0 H σ ρ P) : BRep K τ A0 H P (colE ρ) := fun b hb => by
  obtain ⟨o, ho, e⟩ := List.mem_filterMap.mp hb
  obtain ⟨i, hi⟩ := List.mem_iff_getElem?.mp ho
  unfold tagOf at e
  split at e
  · rename_i t ds
    cases e
    obtain ⟨p, xs, h1, h2, h3, h4, h5⟩ := S.own i (t + 1) ds hi
    have hp : p = τ (t + 1) := h5.resolve_left (Nat.succ_ne_zero t)
    subst hp
    exact ⟨h2, xs, h3, h4⟩
  · cases e
theorem getElem_pad {α : Type} {l : List α} {n i : Nat} {x : α} (h : (l.map some ++ List.replicate n none)[i]? = some (some x)) : (l.map some)[i]? = some (some x) := by
  by_cases hi : i < (l.map some).length
  · rw [List.getElem?_append_left hi] at h
    exact h
  · rw [List.getElem?_append_right (by omega)] at h
    rw [List.getElem?_replicate] at h
    split at h
    · cases h
    · cases h
theorem getElem_padL {α : Type} {l : List α} {n i : Nat} {x : α} (h : (l.map some)[i]? = some (some x)) : (l.map some ++ List.replicate n none)[i]? = some (some x) := by
  have hi : i < (l.map some).length := (List.getElem?_eq_some_iff.mp h).1
  rw [List.getElem?_append_left hi]
  exact h
theorem SRep.pad {vs : List V} {as : List Sl} (S : SRep K τ A0 H (vs.map some) (as.map some) P) (n : Nat) : SRep K τ A0 H (vs.map some ++ List.replicate (n - vs.length) none) (as.map some ++ List.replicate (n - as.length) none) P := by
  have hl : vs.length = as.length := by simpa using S.len
  refine ⟨fun i m d q => ?_, fun i t ds q => ?_, fun i j t u es fs p hij e1 e2 e3 e4 => ?_, S.tr, by simp [hl], S.dj, S.tb, fun i g q => ?_⟩
  rotate_right
  · have cut : ∀ {j : Nat} {s : Sl}, (as.map some ++ List.replicate (n - as.length) none)[j]? = some (some s) → (as.map some)[j]? = some (some s) := fun {j s} z => getElem_pad z
    obtain ⟨⟨p, qs, n1, n2⟩, n3, n4⟩ := S.ns i g (cut q)
    exact ⟨⟨p, qs, getElem_padL n1, n2⟩, fun j h z => n3 j h (cut z), fun j t ds z => n4 j t ds (cut z)⟩
  · obtain ⟨v, h1, h2⟩ := S.pu i m d (getElem_pad q)
    exact ⟨v, getElem_padL h1, h2⟩
  · obtain ⟨p, xs, h1, h2⟩ := S.own i t ds (getElem_pad q)
    exact ⟨p, xs, getElem_padL h1, h2⟩
  · exact S.inj i j t u es fs p hij (getElem_pad e1) (getElem_pad e2) (getElem_pad e3) (getElem_pad e4)
/-- the body's reading from the promise -/
theorem fnF_of {n : Nat} {g : Env → RS} {vs : List V} {N : List Str} (hn : N.length = n) (h : spF K (fnF n g) vs H Q E) : tDS K E g { nx := fun _ H' => Q .non H', rt := Q } (start N vs) H := by
  obtain ⟨τ, A0, P, as, S, c⟩ := h
  subst hn
  refine ⟨τ, A0, P, _, S.pad N.length, ?_⟩
  unfold fnF at c
  cases q : g (as.map some ++ List.replicate (N.length - as.length) none) with
  | nx ρ' =>
    rw [q] at c
    dsimp only at c
    split at c
    · exact fun σ' H' P' t S' => c .non H' P' t S'.col .non
    · exact c.elim
  | ret w ρ' =>
    rw [q] at c
    dsimp only at c
    split at c
    · cases w with
      | pu d => exact fun v σ' H' P' t S' r => c v H' P' t S'.col r
      | frs ds => exact fun p xs σ' H' P' t hp n1 n2 S' hl r => c p xs H' P' t hp n1 n2 S'.col hl r
    · exact c.elim
  | bk ρ' => rw [q] at c; exact c.elim
  | ct ρ' => rw [q] at c; exact c.elim
  | err cc d => rw [q] at c; exact c
  | st => rw [q] at c; exact c
end

/-- a def keeps its promise, wherever no guard is up -/
structure FD (P : Program) (w : World) (K : PySem.W.Frag) (mg : Str → Option Value) (base : Heap) (k : Nat) (f : Addr) (fd : FuncData) (ps : List Str) (F : List Sl → RF) : Prop where
  run : ∀ (A : Around) (outer : List PySem.Env) (s : Shared) (H : Hp) (args : Args) (us : List Value) (vs : List V) (Q : VK) (E : XK), A.guards = some [] → Room k A → Env0 P w K mg base A outer s H → BindsTo s fd args (ps.zip us) → Vals vs us → vs.length = ps.length →
    spF K F vs H Q E → codeAny (model P w) A (.call (.ref f) args) (CR (L2.CX P w) outer P w H s Q E) s
theorem FD.mono {P : Program} {w : World} {K : PySem.W.Frag} {mg : Str → Option Value} {base : Heap} {j k : Nat} {f : Addr} {fd : FuncData} {ps : List Str} {F : List Sl → RF} (h : FD P w K mg base j f fd ps F) (hj : j ≤ k) : FD P w K mg base k f fd ps F :=
  ⟨fun A outer s H args us vs Q E hg hr => h.run A outer s H args us vs Q E hg (hr.mono hj)⟩
section
variable {P : Program} {w : World} {K : PySem.W.Frag} {mg : Str → Option Value} {base : Heap}
/-- the context of a def's body -/
abbrev fx (P : Program) (w : World) (K : PySem.W.Frag) (mg : Str → Option Value) (base : Heap) (N : List Str) (qual : Str) (st : Stmt) (f : Addr) (cdv : Value) (A : Around) (outer : List PySem.Env) (s : Shared) (H : Hp) (E : XK) : Cx :=
  cxOf (L2.CX P w) P w K mg base N qual (defScope st) f cdv A outer s H E
theorem FD.mk' {x qual : Str} {st : Stmt} {f : Addr} {fd : FuncData} {N ps : List Str} {k n : Nat} {g : Env → RS} (F : Fun K x qual st f fd) (S : FnScope N ps (defScope st)) (hn : N.length = n)
    (hbody : ∀ (cdv : Value) (A : Around) (outer : List PySem.Env) (s : Shared) (H : Hp) (E : XK), A.guards = some [] → Room k (A.deeper (envOfC qual (defScope st) s.heap.objs.size f cdv)) → DSs (fx P w K mg base N qual st f cdv A outer s H E) E (defBody st) g) :
    FD P w K mg base (k + 1) f fd ps (fnF n g) := by
  obtain ⟨oc, od, kV, doc, pm, an, cdv, ct, osl, rfl, lk, hcd⟩ := F.ex
  refine ⟨fun A outer s H args us vs Q E hg hr e0 hb rv hl h => LamX.run_ofS lk hcd S hr e0 hb rv hl fun hr2 => ?_⟩
  exact ⟨_, (hbody cdv A outer s H E hg hr2).pss, fnF_of hn h⟩
end
theorem guards_deeper {A : Around} {env : PySem.Env} : (A.deeper env).guards = A.guards := rfl
section
variable {X : Cx} {E : XK} {k : Nat} {f : Addr} {fd : FuncData} {ps : List Str} {F : List Sl → RF} {x : Str} {e : Expr} {es : List Expr} {p pos : Pos}
theorem run_fd {pins : List (Addr × Obj)} {σ : L2.St} {H : Hp} {s : Shared} {Q : VK} {us : List Value} {vs : List V} (h : FD X.prog X.w X.K X.mg X.base k f fd ps F) (hgd : X.A.guards = some []) (hr : Room k X.A) (hx : Passes (L2.CX X.prog X.w) X E) {args : Args}
    (I : Inv X pins σ H s) (r : Vals vs us) (hl : vs.length = ps.length) (hb : BindsTo s fd args (ps.zip us)) (q : spF X.K F vs H Q E) : codeAny (model X.prog X.w) X.A (.call (.ref f) args) (fun r s' => match r with | .ok (.ret u) => EP X pins σ Q u s' | .ok _ => False | .error e => X.xe e s') s := by
  refine codeAny_mono (h.run X.A X.stack s H args us vs Q E hgd hr I.env0 hb r hl q) fun o s' ho => ?_
  cases o with
  | error er => exact hx pins σ H s er s' I ho
  | ok fl =>
    cases fl with
    | ret u => exact I.after ho
    | next => exact ho
    | brk => exact ho
    | cont => exact ho
def retC (r : RF) (ρ : Env) : RE := match r with
  | .ok w [] => .ok w ρ
  | .err c d => .err c d
  | _ => .st
def fCallG (n : Nat) (π : List D → List D) (F : List Sl → RF) (fs : Env → RL) : Env → RE := fun ρ => match fs ρ with
  | .ok ds ρ1 => if ds.length = n then retC (F ((π ds).map .pu)) ρ1 else .st
  | .err c d => .err c d
  | .st => .st
def fCall (n : Nat) (F : List Sl → RF) (fs : Env → RL) : Env → RE := fCallG n id F fs
theorem getElem_pu {ds : List D} {i : Nat} {s : Sl} (h : ((ds.map Sl.pu).map some)[i]? = some (some s)) : ∃ d, ds[i]? = some d ∧ s = .pu d := by
  rw [List.getElem?_map, List.getElem?_map] at h
  cases q : ds[i]? with
  | none => rw [q] at h; cases h
  | some d =>
    rw [q] at h
    exact ⟨d, rfl, (Option.some.inj (Option.some.inj h)).symm⟩
theorem srep_args {K : PySem.W.Frag} {τ : Nat → Addr} {A : List Addr} {H : Hp} {vs : List V} {ds : List D} (tr : ∀ a ∈ A, H a ≠ none) (tb : LamX.Tabs (TbK K) H) (r : Rps K (hid A H) vs ds) : SRep K τ A H (vs.map some) ((ds.map Sl.pu).map some) [] := by
  refine ⟨fun i m d q => ?_, fun i t es q => ?_, fun i j t u es fs p hij e1 e2 e3 => ?_, tr, by simp [r.length], fun p hp => absurd hp (by simp), tb, fun i g q => by
    obtain ⟨d2, q1, q2⟩ := getElem_pu q
    cases q2⟩
  · obtain ⟨d2, q1, q2⟩ := getElem_pu q
    cases q2
    obtain ⟨v, h1, h2⟩ := r.get q1
    exact ⟨v, by rw [List.getElem?_map, h1]; rfl, h2, fun z => nomatch z⟩
  · obtain ⟨d2, q1, q2⟩ := getElem_pu q
    cases q2
  · obtain ⟨d2, q1, q2⟩ := getElem_pu e1
    cases q2
theorem call_pure {K : PySem.W.Frag} {τ : Nat → Addr} {A0 P : List Addr} {H : Hp} {σ : L2.St} {ρ : Env} {Q : VK} {vs : List V} {ds : List D} (S : SRep K τ A0 H σ ρ P) (r : Rps K (hid (P ++ A0) H) vs ds)
    (c : CDE K E τ A0 H P σ (retC (F (ds.map .pu)) ρ) Q) : spF K F vs H Q E := by
  unfold retC at c
  refine ⟨τ, P ++ A0, [], ds.map .pu, srep_args S.tr S.tb r, ?_⟩
  have ex : ∀ {H' : Hp} {P' : List Addr}, Stp K H [] H' P' → Gr K H H' := fun t => t.toGr
  cases q : F (ds.map .pu) with
  | err cc d =>
    rw [q] at c
    exact fun dx v H' P' t hx hr => c dx v H' P (Stp.gr (ex t)) hx (hr.ext (hid_less fun a z => List.mem_append_right _ z))
  | st => rw [q] at c; exact c.elim
  | ok w bs =>
    rw [q] at c
    cases bs with
    | cons b bs => exact c.elim
    | nil =>
      cases w with
      | pu d => exact fun v H' P' t _ hr => c v H' P (Stp.gr (ex t)) (S.grow (ex t)) (hr.ext (hid_less fun a z => List.mem_append_right _ z))
      | frs es =>
        intro p xs H' P' t hp n1 n2 _ hl hr
        have hp0 : H p = none := hp.resolve_left (by simp)
        obtain ⟨m1, m2⟩ := S.fresh hp0
        refine c p xs H' P (Stp.gr (ex t)) hp0 m1 m2 (S.addHid hp0 (ex t) (by rw [hl]; exact fun z => nomatch z)) hl (hr.ext (hid_less fun a z => List.mem_append_right _ ?_))
        rcases List.mem_append.mp z with z | z
        · exact List.mem_cons_of_mem _ (List.mem_append_left _ z)
        · rcases List.mem_cons.mp z with z | z
          · rw [z]; exact List.mem_cons_self
          · exact List.mem_cons_of_mem _ (List.mem_append_right _ z)
end

/-- a def at hand -/
structure Df (P : Program) (w : World) (K : PySem.W.Frag) (mg : Str → Option Value) (base : Heap) (x : Str) (st : Stmt) (k : Nat) (ps : List Str) (F : List Sl → RF) : Prop where
  ex : ∃ (f : Addr) (fd : FuncData), mg x = some (.ref f) ∧ FD P w K mg base k f fd ps F ∧ PySem.W.keepIn K (.ref f) = true ∧ (∀ us : List Value, us.length = ps.length → bindArgs fd ⟨us, []⟩ = pure (ps.zip us)) ∧
    ∃ (kV doc pm : Value) (an : Option Addr) (cdv ct : Value), fd = PySem.W.fnOf x x (defArgs st) (defBody st) (defScope st) .none kV doc pm an cdv ct
/-- where one may call: no guard is up, there is room, exceptions pass -/
structure Cn (X : Cx) (E : XK) (k : Nat) : Prop where
  gd : X.A.guards = some []
  rm : Room k X.A
  px : Passes (L2.CX X.prog X.w) X E
  tk : Takes X fun cls d _ H => E cls d H
  cm : X.calm = true
theorem Cn.blk {X : Cx} {E : XK} {k : Nat} (c : Cn X E k) {s : Shared} {H : Hp} {scope : Scope} {env : PySem.Env} {fp : List Addr} : Cn (X.blk s H scope env fp) E0 k := ⟨c.gd, c.rm, passL, fun _ _ x => by
    obtain ⟨_, _, _, _, _, _, _, _, _, _, _, _, _, _, _, _, z⟩ := x
    exact z.elim, c.cm⟩
theorem Cn.mono {X : Cx} {E : XK} {j k : Nat} (c : Cn X E k) (h : j ≤ k) : Cn X E j := ⟨c.gd, c.rm.mono h, c.px, c.tk, c.cm⟩
theorem Fun.ofD {K : PySem.W.Frag} {x qual : Str} {st : Stmt} {f : Addr} {fd : FuncData} (F : FunD K x qual (defArgs st) (defBody st) (defScope st) [] [] f fd) : Fun K x qual st f fd := by
  obtain ⟨oc, od, dV, kV, doc, pm, an, cdv, ct, osl, e, lk, hcd, hD, hK⟩ := F.ex
  rcases hD with ⟨_, rfl⟩ | ⟨z, _⟩
  · exact ⟨⟨oc, od, kV, doc, pm, an, cdv, ct, osl, e, lk, hcd⟩, F.kp⟩
  · exact absurd rfl z
section
variable {P : Program} {w : World} {K : PySem.W.Frag} {mg : Str → Option Value} {base : Heap}
theorem Df.mk' {x : Str} {st : Stmt} {f : Addr} {fd : FuncData} {N ps : List Str} {k n : Nat} {g : Env → RS} (F : FunD K x x (defArgs st) (defBody st) (defScope st) [] [] f fd) (hm : mg x = some (.ref f)) (S : FnScope N ps (defScope st)) (hn : N.length = n)
    (hb : ∀ (kV doc pm : Value) (an : Option Addr) (cdv ct : Value) (us : List Value), us.length = ps.length → bindArgs (PySem.W.fnOf x x (defArgs st) (defBody st) (defScope st) .none kV doc pm an cdv ct) ⟨us, []⟩ = pure (ps.zip us))
    (hbody : ∀ (cdv : Value) (A : Around) (outer : List PySem.Env) (s : Shared) (H : Hp) (E : XK), Cn (fx P w K mg base N x st f cdv A outer s H E) E k → DSs (fx P w K mg base N x st f cdv A outer s H E) E (defBody st) g) :
    Df P w K mg base x st (k + 1) ps (fnF n g) := by
  refine ⟨f, fd, hm, FD.mk' (Fun.ofD F) S hn fun cdv A outer s H E hg hr => hbody cdv A outer s H E ⟨hg, hr, passes_call (W := fun cls d _ H => E cls d H) (takes_of rfl rfl rfl rfl) (fun _ _ _ _ h => h), takes_of rfl rfl rfl rfl, rfl⟩, F.kp, ?_, ?_⟩
  · obtain ⟨oc, od, kV, doc, pm, an, cdv, ct, osl, rfl, lk, hcd⟩ := (Fun.ofD F).ex
    exact hb kV doc pm an cdv ct
  · obtain ⟨oc, od, kV, doc, pm, an, cdv, ct, osl, rfl, lk, hcd⟩ := (Fun.ofD F).ex
    exact ⟨kV, doc, pm, an, cdv, ct, rfl⟩
theorem Df.mono {x : Str} {st : Stmt} {j k : Nat} {ps : List Str} {F : List Sl → RF} (h : Df P w K mg base x st j ps F) (hj : j ≤ k) : Df P w K mg base x st k ps F := by
  obtain ⟨f, fd, h1, h2, h3⟩ := h.ex
  exact ⟨f, fd, h1, h2.mono hj, h3⟩
end
section
variable {X : Cx} {E : XK} {k m : Nat} {st : Stmt} {ps : List Str} {F : List Sl → RF} {x : Str} {e : Expr} {es : List Expr} {p pos : Pos}
theorem spF_call {n : Nat} {π : List D → List D} {πV : List V → List V} (hπ : ∀ {H : Hp} {vs : List V} {ds : List D}, Rps X.K H vs ds → ds.length = n → Rps X.K H (πV vs) (π ds)) {σ : L2.St} {H : Hp} {Q : VK} {fs : Env → RL} (h : tDE X.K E (fCallG n π F fs) σ H Q) :
    tDA X.K E fs σ H fun vs H1 => vs.length = n ∧ spF X.K F (πV vs) H1 Q E := by
  obtain ⟨τ, A0, P, ρ, S, c⟩ := h
  refine ⟨τ, A0, P, ρ, S, ?_⟩
  unfold fCallG at c
  cases q : fs ρ with
  | ok ds ρ1 =>
    rw [q] at c
    dsimp only at c
    by_cases hn : ds.length = n
    · rw [if_pos hn] at c
      exact fun vs H1 P1 t1 S1 r1 => ⟨r1.length.trans hn, call_pure S1 (hπ r1 hn) (CDE.stp t1 c)⟩
    · rw [if_neg hn] at c
      exact c.elim
  | err cc d => rw [q] at c; exact c
  | st => rw [q] at c; exact c
theorem run_df {pins : List (Addr × Obj)} {σ : L2.St} {H : Hp} {s : Shared} {Q : VK} {us : List Value} {vs : List V} {f : Addr} {fd : FuncData} (h : FD X.prog X.w X.K X.mg X.base k f fd ps F) (c : Cn X E m) (hk : k ≤ m) {args : Args}
    (I : Inv X pins σ H s) (r : Vals vs us) (hl : vs.length = ps.length) (hb : bindArgs fd args = pure (ps.zip us)) (q : spF X.K F vs H Q E) : codeAny (model X.prog X.w) X.A (.call (.ref f) args) (fun r s' => match r with | .ok (.ret u) => EP X pins σ Q u s' | .ok _ => False | .error e => X.xe e s') s :=
  run_fd (h.mono hk) c.gd c.rm c.px I r hl (.of_eq hb) q
/-- f(e, ..) -/
theorem de_call (h : Df X.prog X.w X.K X.mg X.base x st k ps F) (c : Cn X E m) {fs : Env → RL} (ha : DA X E (e :: es) fs) (hk : k ≤ m := by decide) (hg : Gl X x := by rfl)
    (hdb : (x == ("__debug__" : Str)) = false := by decide) (he : starEach (e :: es) X.env = (false, eval e X.env) :: starEach es X.env := by rfl) (hpl : (backTo pos (starEach es X.env)).any (·.1) = false := by rfl) :
    DE X E (.Call (.Name x p) (e :: es) [] pos) (fCall ps.length F fs) := by
  obtain ⟨f, fd, hm, hF, hkp, hb, _⟩ := h.ex
  refine ⟨⟨fun pins s σ H Q I hw => ?_⟩⟩
  refine wpAny_Call_Name_kw (ld_glob I hg hm ?_ hdb)
  refine PySem.W.callWith_K (h₀ := X.base) I.ok.mod.kin hkp (thn (ha.pa.run pos pins s σ H _ I (spF_call (πV := id) (fun r _ => r) hw)) fun us s1 ⟨vs, H1, I1, r, hlv, q⟩ => ⟨I1.kIn, ?_⟩) he hpl
  refine wpAny_call (codeAny_mono (run_df hF c hk I1 r hlv (hb us (by rw [← r.length]; exact hlv)) q) fun o s' ho => ?_)
  cases o with
  | error er => exact ho
  | ok fl => cases fl <;> exact ho
/-- f() -/
theorem de_call0 (h : Df X.prog X.w X.K X.mg X.base x st k [] F) (c : Cn X E m) (hk : k ≤ m := by decide) (hg : Gl X x := by rfl) (hdb : (x == ("__debug__" : Str)) = false := by decide) :
    DE X E (.Call (.Name x p) [] [] pos) (fCall 0 F fNil) := by
  obtain ⟨f, fd, hm, hF, hkp, hb, _⟩ := h.ex
  refine ⟨⟨fun pins s σ H Q I hw => ?_⟩⟩
  refine wpAny_Call_Name_kw (ld_glob I hg hm ?_ hdb)
  obtain ⟨τ, A0, P, ρ, S, z⟩ := hw
  refine PySem.W.callWith_K0 I.kIn hkp ?_
  refine wpAny_call (codeAny_mono (run_df (vs := []) (us := []) hF c hk I .nil rfl (hb [] rfl) (call_pure (ds := []) S .nil z)) fun o s' ho => ?_)
  cases o with
  | error er => exact ho
  | ok fl => cases fl <;> exact ho
/-- f(k = e, ..): the values in the order of the parameters -/
def pick {α : Type} (z : α) (ix : List Nat) (l : List α) : List α := ix.map fun i => l.getD i z
theorem pick_rps {K : PySem.W.Frag} {H : Hp} {vs : List V} {ds : List D} (r : Rps K H vs ds) : ∀ ix : List Nat, Rps K H (pick .non ix vs) (pick .none ix ds)
  | [] => .nil
  | i :: ix => by
    refine .cons ?_ (pick_rps r ix)
    show Rp K H (vs.getD i .non) (ds.getD i .none)
    rw [List.getD_eq_getElem?_getD, List.getD_eq_getElem?_getD]
    cases q : ds[i]? with
    | some d =>
      obtain ⟨v, h1, h2⟩ := r.get q
      rw [h1]
      exact h2
    | none =>
      have h1 : vs[i]? = none := List.getElem?_eq_none_iff.mpr (by rw [r.length]; exact List.getElem?_eq_none_iff.mp q)
      rw [h1]
      exact .non
theorem pick_vals {vs : List V} {us : List Value} (r : Vals vs us) : ∀ ix : List Nat, Vals (pick .non ix vs) (pick .none ix us)
  | [] => .nil
  | i :: ix => by
    refine .cons ?_ (pick_vals r ix)
    show RelV (vs.getD i .non) (us.getD i .none)
    rw [List.getD_eq_getElem?_getD, List.getD_eq_getElem?_getD]
    have hl := r.length
    cases q : vs[i]? with
    | some v =>
      obtain ⟨u, q2, q3⟩ := r.get q
      rw [q2]
      exact q3
    | none =>
      rw [r.none_of q]
      exact rfl
/-- the values of keywords, from the left -/
structure DK (X : Cx) (E : XK) (kws : List Keyword) (f : Env → RL) : Prop where
  pk : PK X kws (tDA X.K E f)
theorem PK.weak {kws : List Keyword} {t t' : TA} (h : PK X kws t) (w : ∀ σ H Q, t' σ H Q → t σ H Q) : PK X kws t' := ⟨fun pos pins s σ H Q I q => h.run pos pins s σ H Q I (w σ H Q q)⟩
theorem dk_nil : DK X E [] fNil := ⟨PK.weak pk_nil fun σ H Q ⟨τ, A0, P, ρ, S, c⟩ => c [] H P (Stp.rfl H P) S .nil⟩
theorem dk_cons {fa : Env → RE} {fr : Env → RL} {nm : Option Str} {kws : List Keyword} {kpos : Pos} (ha : DE X E e fa) (hr : DK X E kws fr) : DK X E (⟨nm, e, kpos⟩ :: kws) (fCons fa fr) := by
  refine ⟨PK.weak (pk_cons ha.pe hr.pk) fun σ H Q ⟨τ, A0, P, ρ, S, c⟩ => ⟨τ, A0, P, ρ, S, CDE.toD ?_⟩⟩
  unfold fCons at c
  cases q : fa ρ with
  | ok w ρ1 =>
    rw [q] at c
    intro v H1 P1 t1 S1 r1
    refine ⟨τ, A0, P1, ρ1, S1, ?_⟩
    dsimp only at c
    cases q2 : fr ρ1 with
    | ok ds ρ2 =>
      rw [q2] at c
      exact fun vs H2 P2 t2 S2 r2 => c (v :: vs) H2 P2 (t1.trans t2) S2 (.cons (r1.stp t2) r2)
    | err cc d =>
      rw [q2] at c
      exact fun dx v H2 P2 t2 hx hr => c dx v H2 P2 (t1.trans t2) ⟨t1.al _ hx.1, hx.2⟩ hr
    | st =>
      rw [q2] at c
      exact c
  | err cc d =>
    rw [q] at c
    exact c
  | st =>
    rw [q] at c
    exact c
/-- f(k = e, ..), ix: where the parameters' values stand among the keywords -/
theorem de_callK (h : Df X.prog X.w X.K X.mg X.base x st k ps F) (c : Cn X E m) {kws : List Keyword} {fs : Env → RL} (ks : List Str) (ix : List Nat) (ha : DK X E kws fs)
    (hb : ∀ (kV doc pm : Value) (an : Option Addr) (cdv ct : Value) (us : List Value), us.length = ks.length → bindArgs (PySem.W.fnOf x x (defArgs st) (defBody st) (defScope st) .none kV doc pm an cdv ct) ⟨[], ks.zip us⟩ = pure (ps.zip (pick .none ix us)))
    (hk : k ≤ m := by decide) (hix : ix.length = ps.length := by rfl) (hg : Gl X x := by rfl) (hdb : (x == ("__debug__" : Str)) = false := by decide)
    (hall : (backToKw pos (keywordEach kws X.env)).all (·.1.isSome) = true := by rfl) (hks : (backToKw pos (keywordEach kws X.env)).filterMap (·.1) = ks := by rfl)
    (hpl : ((backTo pos (starEach [] X.env)).any (·.1) || (backToKw pos (keywordEach kws X.env)).any (·.1.isNone)) = false := by rfl) :
    DE X E (.Call (.Name x p) [] kws pos) (fCallG ks.length (pick .none ix) F fs) := by
  obtain ⟨f, fd, hm, hF, hkp, _, kV, doc, pm, an, cdv, ct, e1⟩ := h.ex
  refine ⟨⟨fun pins s σ H Q I hw => ?_⟩⟩
  refine wpAny_Call_Name_kw (ld_glob I hg hm ?_ hdb)
  refine PySem.W.callWith_KW0 (h₀ := X.base) I.ok.mod.kin hkp hall ?_ hpl
  refine thn (ha.pk.run pos pins s σ H _ I (spF_call (πV := pick .non ix) (fun r _ => pick_rps r ix) hw)) fun us s1 ⟨vs, H1, I1, r, hlv, q⟩ => ⟨I1.kIn, ?_⟩
  rw [hks]
  have hl : (pick V.non ix vs).length = ps.length := by rw [← hix]; exact List.length_map _
  refine wpAny_call (codeAny_mono (run_df hF c hk I1 (pick_vals r ix) hl (by rw [e1]; exact hb kV doc pm an cdv ct us (by rw [← r.length]; exact hlv)) q) fun o s' ho => ?_)
  cases o with
  | error er => exact ho
  | ok fl => cases fl <;> exact ho
end

/-! ### a call that is lent an own list -/
section
variable {K : PySem.W.Frag} {τ : Nat → Addr} {A0 P : List Addr} {H H' : Hp} {σ : L2.St} {ρ : Env}
/-- an own list of ours has changed, new things are beside it, some of them hidden -/
theorem SRep.chgMore {B0 : List Addr} {i t : Nat} {ds es : List D} {q : Addr} {ys : List V} (S : SRep K τ A0 H σ ρ P) (hi : ρ[i]? = some (some (.own t ds))) (hp : σ[i]? = some (some (.ref q)))
    (hA : ∀ a ∈ B0, a ∈ A0 ∨ H a = none) (hB : ∀ a ∈ B0, H' a ≠ none)
    (k : ∀ a o, a ≠ q → H a = some o → NT o → H' a = some o) (al : ∀ a, H' a = none → H a = none) (tb : LamX.Tabs (TbK K) H → LamX.Tabs (TbK K) H') (h' : H' q = some (.lst ys)) (r : Rps K (hid (P ++ B0) H') ys es) : SRep K τ B0 H' σ (ρ.set i (some (.own t es))) P := by
  obtain ⟨p2, xs, b1, b2, b3, b4, b5⟩ := S.own i t ds hi
  rw [hp] at b1
  cases b1
  have hl : i < ρ.length := (List.getElem?_eq_some_iff.mp hi).1
  have ex : Ext (hid (P ++ A0) H) (hid (P ++ B0) H') := fun a o z => by
    obtain ⟨n, e⟩ := hid_of z
    rw [List.mem_append, not_or] at n
    refine hid_in (fun w => ?_) (k a o (fun w => n.1 (by rw [w]; exact b2)) e (hid_nt z)) (hid_nt z)
    rcases List.mem_append.mp w with w | w
    · exact n.1 w
    · rcases hA a w with w | w
      · exact n.2 w
      · rw [w] at e; cases e
  refine ⟨fun j m d z => ?_, fun j u gs z => ?_, fun j m u u2 fs gs b hjk e1 e2 e3 => ?_, fun a z n => ?_, by simpa using S.len, fun p hp z => ?_, tb S.tb, fun j g z => ?_⟩
  rotate_right
  · by_cases hj : i = j
    · subst hj
      rw [List.getElem?_set_self hl] at z
      cases z
    · rw [List.getElem?_set_ne hj] at z
      exact absurd hi ((S.ns j g z).2.2 i t ds)
  · by_cases hj : i = j
    · subst hj
      rw [List.getElem?_set_self hl] at z
      cases z
    · rw [List.getElem?_set_ne hj] at z
      obtain ⟨v, c1, c2, c3⟩ := S.pu j m d z
      exact ⟨v, c1, c2.ext ex.hs, c3⟩
  · by_cases hj : i = j
    · subst hj
      rw [List.getElem?_set_self hl] at z
      cases z
      exact ⟨q, ys, hp, b2, h', r, b5⟩
    · rw [List.getElem?_set_ne hj] at z
      obtain ⟨b, zs, c1, c2, c3, c4, c5⟩ := S.own j u gs z
      refine ⟨b, zs, c1, c2, k b _ (fun w => ?_) c3 (fun _ z => nomatch z), c4.ext ex, c5⟩
      subst w
      exact S.inj i j t u ds gs b hj hi z hp c1
  · have back : ∀ {j u : Nat} {gs : List D}, (ρ.set i (some (.own t es)))[j]? = some (some (.own u gs)) → ∃ hs, ρ[j]? = some (some (.own u hs)) := fun {j u gs} z => by
      by_cases hj : i = j
      · subst hj
        rw [List.getElem?_set_self hl] at z
        cases z
        exact ⟨_, hi⟩
      · rw [List.getElem?_set_ne hj] at z
        exact ⟨_, z⟩
    obtain ⟨_, q1⟩ := back e1
    obtain ⟨_, q2⟩ := back e2
    exact S.inj j m u u2 _ _ b hjk q1 q2 e3
  · rcases List.mem_append.mp z with z | z
    · exact S.tr a (List.mem_append_left _ z) (al a n)
    · exact hB a z n
  · rcases hA p z with w | w
    · exact S.dj p hp w
    · exact S.tr p (List.mem_append_left _ hp) w
def fLend (n i : Nat) (F : List Sl → RF) (fs : Env → RL) : Env → RE := fun ρ => match ρ[i]? with
  | some (some (.own _ _)) => (match fs ρ with
    | .ok es ρ1 => (match ρ1[i]? with
      | some (some (.own t ds)) => if es.length + 1 = n then (match F (.own 1 ds :: es.map .pu) with
        | .ok w [(1, ds2)] => .ok w (ρ1.set i (some (.own t ds2)))
        | .err c d => .err c d
        | _ => .st) else .st
      | _ => .st)
    | .err c d => .err c d
    | .st => .st)
  | _ => .st
theorem call_lend {E : XK} {F : List Sl → RF} {Q : VK} {vs : List V} {es ds : List D} {i t : Nat} {p : Addr} (S : SRep K τ A0 H σ ρ P) (hi : ρ[i]? = some (some (.own t ds))) (hp : σ[i]? = some (some (.ref p))) (r : Rps K (hid (P ++ A0) H) vs es)
    (c : CDE K E τ A0 H P σ (match F (.own 1 ds :: es.map .pu) with
        | .ok w [(1, ds2)] => .ok w (ρ.set i (some (.own t ds2)))
        | .err c d => .err c d
        | _ => .st) Q) : spF K F (.ref p :: vs) H Q E := by
  obtain ⟨p2, xs, b1, b2, b3, b4, b5⟩ := S.own i t ds hi
  rw [hp] at b1
  cases b1
  have pA : p ∉ A0 := S.dj p b2
  let B := P.filter (fun a => decide (a ≠ p)) ++ A0
  have mB : ∀ a, a ∈ [p] ++ B ↔ a ∈ P ++ A0 := fun a => by
    simp only [B, List.mem_append, List.mem_filter, List.mem_singleton, decide_eq_true_eq]
    constructor
    · rintro (z | z | z)
      · exact .inl (by rw [z]; exact b2)
      · exact .inl z.1
      · exact .inr z
    · rintro (z | z)
      · by_cases hz : a = p
        · exact .inl hz
        · exact .inr (.inl ⟨z, hz⟩)
      · exact .inr (.inr z)
  have eB : hid ([p] ++ B) H = hid (P ++ A0) H := hid_swap mB
  have lk : ∀ {j : Nat} {s : Sl}, ((Sl.own 1 ds :: es.map Sl.pu).map some)[j]? = some (some s) → (j = 0 ∧ s = .own 1 ds) ∨ ∃ k d, j = k + 1 ∧ es[k]? = some d ∧ s = .pu d := fun {j s} z => by
    cases j with
    | zero => exact .inl ⟨rfl, (Option.some.inj (Option.some.inj z)).symm⟩
    | succ k =>
      obtain ⟨d, q1, q2⟩ := getElem_pu (ds := es) (i := k) (s := s) z
      exact .inr ⟨k, d, rfl, q1, q2⟩
  refine ⟨fun _ => p, B, [p], .own 1 ds :: es.map .pu, ⟨fun j m d q => ?_, fun j u gs q => ?_, fun j k u u2 fs gs b hjk e1 e2 e3 => ?_, fun a z => S.tr a ((mB a).mp z), by simp [r.length], fun q hq z => ?_, S.tb, fun j g q => ?_⟩, ?_⟩
  rotate_right 2
  · rcases lk q with ⟨rfl, q⟩ | ⟨k, d', rfl, q1, q2⟩
    · cases q
    · cases q2
  rotate_left
  · rcases lk q with ⟨_, q⟩ | ⟨k, d', rfl, q1, q2⟩
    · cases q
    · cases q2
      obtain ⟨v, h1, h2⟩ := r.get q1
      refine ⟨v, ?_, ?_, fun z => nomatch z⟩
      · show ((V.ref p :: vs).map some)[k + 1]? = _
        rw [List.map_cons, List.getElem?_cons_succ, List.getElem?_map, h1]; rfl
      · show Rp K (hid ([p] ++ B) H) v d
        rw [eB]; exact h2
  · rcases lk q with ⟨rfl, q⟩ | ⟨k, d', rfl, q1, q2⟩
    · cases q
      exact ⟨p, xs, rfl, List.mem_cons_self, b3, by rw [eB]; exact b4, .inr rfl⟩
    · cases q2
  · rcases lk e1 with ⟨rfl, _⟩ | ⟨k', d', rfl, q1, q2⟩
    · rcases lk e2 with ⟨rfl, _⟩ | ⟨k', d', rfl, q1, q2⟩
      · exact absurd rfl hjk
      · cases q2
    · cases q2
  · rw [List.mem_singleton.mp hq] at z
    rcases List.mem_append.mp z with z | z
    · exact (of_decide_eq_true (List.mem_filter.mp z).2) rfl
    · exact pA z
  have step : ∀ {H' : Hp} {P2 : List Addr}, Stp K H [p] H' P2 → Stp K H P H' P := fun t => ⟨fun a o n h nt => t.kp a o (fun z => n (by rw [List.mem_singleton.mp z]; exact b2)) h nt, fun _ z => .inl z, t.al, t.tb⟩
  have less : ∀ {H' : Hp} {P2 : List Addr}, p ∈ P2 → Ext (hid (P2 ++ B) H') (hid (P ++ A0) H') := fun {H' P2} hp2 => hid_less fun a z => by
    rcases List.mem_append.mp ((mB a).mpr z) with z | z
    · exact List.mem_append_left _ (by rw [List.mem_singleton.mp z]; exact hp2)
    · exact List.mem_append_right _ z
  cases q : F (.own 1 ds :: es.map .pu) with
  | err cc d =>
    rw [q] at c
    exact fun dx v H' P' t hx hr => c dx v H' (P.filter (fun a => decide (a ≠ p))) ⟨(step t).kp, fun a z => .inl (List.mem_filter.mp z).1, t.al, t.tb⟩ hx (hr.ext (hid_less fun a z => List.mem_append_right _ z))
  | st => rw [q] at c; exact c.elim
  | ok w bs =>
    rw [q] at c
    split at c
    · rename_i w' ds2 e
      cases e
      cases w with
      | pu d =>
        intro v H' P' t B2 hr
        obtain ⟨hp2, ys, hl, hy⟩ := B2 (1, ds2) List.mem_cons_self
        exact c v H' P (step t) (S.chgMore (B0 := A0) hi hp (fun a z => .inl z) (fun a z n => S.tr a (List.mem_append_right _ z) (t.al a n)) (fun a o n h nt => t.kp a o (fun z => n (List.mem_singleton.mp z)) h nt) t.al t.tb hl (hy.ext (less hp2))) (hr.ext (less hp2))
      | frs gs =>
        intro p2 zs H' P' t hf n1 n2 B2 hl2 hr
        obtain ⟨hp2, ys, hl, hy⟩ := B2 (1, ds2) List.mem_cons_self
        have hp0 : H p2 = none := hf.resolve_left fun z => n1 (by rw [List.mem_singleton.mp z]; exact hp2)
        obtain ⟨m1, m2⟩ := S.fresh hp0
        have lessF : Ext (hid (P' ++ p2 :: B) H') (hid (P ++ p2 :: A0) H') := hid_less fun a z => by
          rcases List.mem_append.mp z with z | z
          · have z2 := List.mem_append.mp ((mB a).mpr (List.mem_append_left _ z))
            rcases z2 with z2 | z2
            · exact List.mem_append_left _ (by rw [List.mem_singleton.mp z2]; exact hp2)
            · exact List.mem_append_right _ (List.mem_cons_of_mem _ z2)
          · rcases List.mem_cons.mp z with z | z
            · rw [z]; exact List.mem_append_right _ List.mem_cons_self
            · have z2 := List.mem_append.mp ((mB a).mpr (List.mem_append_right _ z))
              rcases z2 with z2 | z2
              · exact List.mem_append_left _ (by rw [List.mem_singleton.mp z2]; exact hp2)
              · exact List.mem_append_right _ (List.mem_cons_of_mem _ z2)
        refine c p2 zs H' P (step t) hp0 m1 m2 (S.chgMore (B0 := p2 :: A0) hi hp (fun a z => ?_) (fun a z n => ?_) (fun a o n h nt => t.kp a o (fun z => n (List.mem_singleton.mp z)) h nt) t.al t.tb hl (hy.ext lessF)) hl2 (hr.ext lessF)
        · rcases List.mem_cons.mp z with z | z
          · exact .inr (by rw [z]; exact hp0)
          · exact .inl z
        · rcases List.mem_cons.mp z with z | z
          · rw [z, hl2] at n; cases n
          · exact S.tr a (List.mem_append_right _ z) (t.al a n)
    · cases w <;> exact (by first | exact c.elim | (simp_all; done))
    · exact c.elim
end
end DL
/-! D8: lent lists, own lists read and written, further statements. -/
namespace DL
open PySem L2 PyProof.Rows

section
variable {X : Cx} {E : XK} {k m i : Nat} {st : Stmt} {ps : List Str} {F : List Sl → RF} {x : Str} {e0 e : Expr} {es : List Expr} {p pos : Pos} {fa fb : Env → RE}
/-- f(x, e, ..), x an own list, lent -/
theorem de_lend (h : Df X.prog X.w X.K X.mg X.base x st k ps F) (c : Cn X E m) {fs : Env → RL} (h0 : PE X e0 (tVar i)) (ha : DA X E es fs) (hk : k ≤ m := by decide) (hg : Gl X x := by rfl)
    (hdb : (x == ("__debug__" : Str)) = false := by decide) (he : starEach (e0 :: es) X.env = (false, eval e0 X.env) :: starEach es X.env := by rfl) (hpl : (backTo pos (starEach es X.env)).any (·.1) = false := by rfl) :
    DE X E (.Call (.Name x p) (e0 :: es) [] pos) (fLend ps.length i F fs) := by
  obtain ⟨f, fd, hm, hF, hkp, hb, _⟩ := h.ex
  refine ⟨⟨fun pins s σ H Q I hw => ?_⟩⟩
  refine wpAny_Call_Name_kw (ld_glob I hg hm ?_ hdb)
  have hw2 : tCons (tVar i) (tDA X.K E fs) σ H fun vs H1 => vs.length = ps.length ∧ spF X.K F vs H1 Q E := by
    obtain ⟨τ, A0, P, ρ, S, c⟩ := hw
    unfold fLend at c
    split at c
    · rename_i t0 ds0 q0
      obtain ⟨q, xs, b1, b2, b3, b4, b5⟩ := S.own i t0 ds0 q0
      refine ⟨.ref q, b1, τ, A0, P, ρ, S, ?_⟩
      cases q1 : fs ρ with
      | err cc d => rw [q1] at c; exact c
      | st => rw [q1] at c; exact c
      | ok ds ρ1 =>
        rw [q1] at c
        dsimp only at c
        intro vs H1 P1 t1 S1 r1
        split at c
        · rename_i t ds1 q2
          by_cases hn : ds.length + 1 = ps.length
          · rw [if_pos hn] at c
            exact ⟨by rw [List.length_cons, r1.length, hn], call_lend S1 q2 b1 r1 (CDE.stp t1 c)⟩
          · rw [if_neg hn] at c
            exact c.elim
        · exact c.elim
    · exact c.elim
  refine PySem.W.callWith_K (h₀ := X.base) I.ok.mod.kin hkp (thn ((pa_cons h0 ha.pa he).run pos pins s σ H _ I hw2) fun us s1 ⟨vs, H1, I1, r, hlv, q⟩ => ⟨I1.kIn, ?_⟩) he hpl
  refine wpAny_call (codeAny_mono (run_df hF c hk I1 r hlv (hb us (by rw [← r.length]; exact hlv)) q) fun o s' ho => ?_)
  cases o with
  | error er => exact ho
  | ok fl => cases fl <;> exact ho
/-- x[e], x an own list that stays so -/
def fIxO (i : Nat) (fb : Env → RE) : Env → RE := fun ρ => match ρ[i]? with
  | some (some (.own _ _)) => (match fb ρ with
    | .ok w ρ1 => (match ρ1[i]?, w.d with
      | some (some (.own _ ds)), .int j => resW ((atI ds j).map .pu) ρ1
      | _, _ => .st)
    | .err c d => .err c d
    | .st => .st)
  | _ => .st
theorem de_ixO {a : Expr} (h0 : PE X a (tVar i)) (hb : DE X E e fb) (hs : PlainIx e := by exact fun _ _ => rfl) : DE X E (.Subscript a e pos) (fIxO i fb) := by
  refine ⟨PE.weak (pe_ix ix_seq h0 hb.pe hs) fun σ H Q ⟨τ, A0, P, ρ, S, c⟩ => ?_⟩
  unfold fIxO at c
  split at c
  · rename_i t0 ds0 q0
    obtain ⟨q, xs, b1, b2, b3, b4, b5⟩ := S.own i t0 ds0 q0
    refine ⟨.ref q, b1, τ, A0, P, ρ, S, CDE.toD ?_⟩
    cases q1 : fb ρ with
    | err cc d => rw [q1] at c; exact c
    | st => rw [q1] at c; exact c
    | ok w ρ1 =>
      rw [q1] at c
      dsimp only at c
      intro v H1 P1 t1 S1 r1
      split at c
      · rename_i t ds j q2 q3
        rw [q3] at r1
        obtain ⟨q', xs', d1, d2, d3, d4, d5⟩ := S1.own i t ds q2
        rw [b1] at d1
        cases d1
        cases q4 : atI ds j with
        | none => rw [q4] at c; exact c.elim
        | some d =>
          rw [q4] at c
          obtain ⟨u, h2, h3⟩ := atI_rps d4 q4
          exact .inl ⟨q, xs', j, u, rfl, rp_int r1, .inl (.inl d3), h2, c u H1 P1 t1 S1 h3⟩
      · exact c.elim
  · exact c.elim
/-- x[e] = v, x an own list -/
def sSetO (i : Nat) (fv fi : Env → RE) : Env → RS := sE fv fun wv ρ1 => match ρ1[i]? with
  | some (some (.own _ _)) => sE fi (fun wi ρ2 => match ρ2[i]?, wi.d with
    | some (some (.own t ds)), .int j => (match ixN ds.length j with
      | some n => .nx (ρ2.set i (some (.own t (ds.set n wv.d))))
      | none => .st)
    | _, _ => .st) ρ1
  | _ => .st
theorem SRep.slot {K : PySem.W.Frag} {τ : Nat → Addr} {A0 P : List Addr} {H : Hp} {σ : L2.St} {ρ : Env} (S : SRep K τ A0 H σ ρ P) {i t : Nat} {ds : List D} (h : ρ[i]? = some (some (.own t ds))) : ∃ p xs, σ[i]? = some (some (.ref p)) ∧ p ∈ P ∧ H p = some (.lst xs) ∧ Rps K (hid (P ++ A0) H) xs ds := by
  obtain ⟨p, xs, h1, h2, h3, h4, _⟩ := S.own i t ds h
  exact ⟨p, xs, h1, h2, h3, h4⟩
end
/-- tuple targets, names -/
def sBind (bind : D → Env → Option Env) (fe : Env → RE) : Env → RS := sE fe fun w ρ => match bind w.d ρ with
  | some ρ1 => .nx ρ1
  | none => .st
section
variable {X : Cx} {E : XK} {e tg : Expr} {fe : Env → RE} {pos : Pos}
theorem ds_asg {bind : D → Env → Option Env} {g : TG} {js : List Nat} (hb : GtOk X.K g bind js) (hg : PG X tg g) (he : DE X E e fe) (hs : swapsWithSole [tg] e pos.line X.env = pure false := by rfl) (hw : swappedStores [tg] e X.env = pure none := by rfl)
    (h1 : (assignEach [tg] X.env).map (·.2) = [assign tg X.env] := by rfl) : DS X E (.Assign [tg] e pos) (sBind bind fe) := by
  refine ⟨PS.weak (ps_asg he.pe hg hs hw h1) fun Dn σ H ⟨τ, A0, P, ρ, S, c⟩ => ⟨τ, A0, P, ρ, S, CDE.toD ?_⟩⟩
  unfold sBind sE at c
  cases q : fe ρ with
  | err cc d => rw [q] at c; exact c
  | st => rw [q] at c; exact c
  | ok w ρ1 =>
    rw [q] at c
    dsimp only at c
    intro v H' P' t S' r
    cases q2 : bind w.d ρ1 with
    | none => rw [q2] at c; exact c.elim
    | some ρ2 =>
      rw [q2] at c
      obtain ⟨σ2, S2, _, _, k2⟩ := hb τ A0 P' H' σ ρ1 ρ2 v w.d S' r q2
      exact k2 _ (c σ2 H' P' t S2)
theorem ds_setO {i : Nat} {o ix : Expr} {fi : Env → RE} {p2 : Pos} (h0 : PE X o (tVar i)) (he : DE X E e fe) (hi : DE X E ix fi)
    (ha : ∀ v, assign (.Subscript o ix p2) X.env v = (do
      let ov ← holding [v] (eval o X.env)
      let iv ← holding [v, ov] (eval ix X.env)
      standAt p2
      holding [v, ov, iv] (setItem ov iv v)
      release [v, ov, iv] []) := by intro _; rfl)
    (hs : swapsWithSole [.Subscript o ix p2] e pos.line X.env = pure false := by rfl) (hw : swappedStores [.Subscript o ix p2] e X.env = pure none := by rfl) (h1 : (assignEach [.Subscript o ix p2] X.env).map (·.2) = [assign (.Subscript o ix p2) X.env] := by rfl) :
    DS X E (.Assign [.Subscript o ix p2] e pos) (sSetO i fe fi) := by
  refine ⟨PS.weak (ps_asg he.pe (pg_sub h0 hi.pe set_list ha) hs hw h1) fun Dn σ H ⟨τ, A0, P, ρ, S, c⟩ => ⟨τ, A0, P, ρ, S, CDE.toD ?_⟩⟩
  unfold sSetO sE at c
  cases q : fe ρ with
  | err cc d => rw [q] at c; exact c
  | st => rw [q] at c; exact c
  | ok w ρ1 =>
    rw [q] at c
    dsimp only at c
    intro v H1 P1 t1 S1 r1
    split at c
    · rename_i t0 ds0 q0
      obtain ⟨p, xs, b1, b2, b3, b4⟩ := S1.slot q0
      refine ⟨.ref p, b1, τ, A0, P1, ρ1, S1, CDE.toD ?_⟩
      cases q2 : fi ρ1 with
      | err cc d => rw [q2] at c; exact fun dx u H2 P2 t2 hx2 hr => c dx u H2 P2 (t1.trans t2) ⟨t1.al _ hx2.1, hx2.2⟩ hr
      | st => rw [q2] at c; exact c
      | ok wi ρ2 =>
        rw [q2] at c
        dsimp only at c
        intro u H2 P2 t2 S2 r2
        split at c
        · rename_i t ds j q3 q4
          rw [q4] at r2
          obtain ⟨p', ys, d1, d2, d3, d4⟩ := S2.slot q3
          rw [b1] at d1
          cases d1
          cases q5 : ixN ds.length j with
          | none => rw [q5] at c; exact c.elim
          | some n =>
            rw [q5] at c
            obtain ⟨S3, hp⟩ := S2.chg q3 b1 (d4.set (r1.stp t2) n)
            exact ⟨p, ys, j, n, rfl, rp_int r2, d3, by rw [d4.length]; exact q5, c σ _ P2 ((t1.trans t2).trans (stp_own hp d3)) S3⟩
        · exact c.elim
    · exact c.elim
/-- x, y = e1, e2; the second's value may be a new list, then y's own -/
def sPar (i j : Nat) (fa fb : Env → RE) : Env → RS := sE fa fun wa ρ1 => sE fb (fun wb ρ2 => match wb with
  | .pu d => .nx ((ρ2.set i (some (.pu wa.d))).set j (some (.pu d)))
  | .frs ds => if noN (ρ2.set i (some (.pu wa.d))) then .nx ((ρ2.set i (some (.pu wa.d))).set j (some (.own 0 ds))) else .st) ρ1
theorem ds_par {i j : Nat} {x y : Str} {a b : Expr} {fa fb : Env → RE} {px py pt : Pos} {kt k2 pt2} (hc : X.calm = true) (hN : X.N.Nodup) (hi : X.N[i]? = some x) (hj : X.N[j]? = some y) (hij : i ≠ j)
    (hx : X.env.scope.names.lookup x = some .local) (hy : X.env.scope.names.lookup y = some .local) (ha : DE X E a fa) (hb : DE X E b fb)
    (he : starEach [a, b] X.env = (false, eval a X.env) :: starEach [b] X.env := by rfl) (he2 : starEach [b] X.env = (false, eval b X.env) :: starEach [] X.env := by rfl)
    (hw : swappedStores [.Tuple [.Name x px, .Name y py] kt pt] (.Tuple [a, b] k2 pt2) X.env = pure (some [x, y]) := by rfl)
    (hs : swapsWithSole [.Tuple [.Name x px, .Name y py] kt pt] (.Tuple [a, b] k2 pt2) pos.line X.env = pure false := by rfl) :
    DS X E (.Assign [.Tuple [.Name x px, .Name y py] kt pt] (.Tuple [a, b] k2 pt2) pos) (sPar i j fa fb) := by
  refine ⟨PS.weak (ps_par hc hN hi hj hij hx hy (pa_cons ha.pe (pa_cons hb.pe pa_nil he2) he) hw hs) fun Dn σ H ⟨τ, A0, P, ρ, S, c⟩ => ⟨τ, A0, P, ρ, S, CDE.toD ?_⟩⟩
  unfold sPar sE at c
  cases q : fa ρ with
  | err cc d => rw [q] at c; exact c
  | st => rw [q] at c; exact c
  | ok wa ρ1 =>
    rw [q] at c
    dsimp only at c
    intro v H1 P1 t1 S1 r1
    refine ⟨τ, A0, P1, ρ1, S1, ?_⟩
    cases q2 : fb ρ1 with
    | err cc d => rw [q2] at c; exact fun dx u H2 P2 t2 hx2 hr => c dx u H2 P2 (t1.trans t2) ⟨t1.al _ hx2.1, hx2.2⟩ hr
    | st => rw [q2] at c; exact c
    | ok wb ρ2 =>
      rw [q2] at c
      dsimp only at c
      cases wb with
      | pu d => exact fun u H2 P2 t2 S2 r2 => ⟨v, u, rfl, c _ H2 P2 (t1.trans t2) ((S2.put (r1.stp t2) i).put r2 j)⟩
      | frs ds =>
        dsimp only at c
        by_cases hnn : noN (ρ2.set i (some (.pu wa.d))) = true
        rotate_left
        · rw [if_neg hnn] at c
          exact c.elim
        rw [if_pos hnn] at c
        intro p xs H2 P2 t2 n n1 n2 S2 hl r2
        refine ⟨v, .ref p, rfl, c _ H2 (p :: P2) ⟨(t1.trans t2).kp, fun a z => ?_, (t1.trans t2).al, (t1.trans t2).tb⟩ (((S2.put (v := v) (d := wa.d) ?_ i)).own_ n2 hl r2 j hnn)⟩
        · rcases List.mem_cons.mp z with z | z
          · exact .inr (by rw [z]; exact t1.al p n)
          · exact (t1.trans t2).nw a z
        · refine r1.ext fun a o z => ?_
          obtain ⟨m, z2⟩ := hid_of z
          rw [List.mem_append, not_or] at m
          refine hid_in (fun w => ?_) (t2.kp a o m.1 z2 (hid_nt z)) (hid_nt z)
          rcases List.mem_append.mp w with w | w
          · rcases t2.nw a w with w | w
            · exact m.1 w
            · rw [w] at z2; cases z2
          · rcases List.mem_cons.mp w with w | w
            · rw [w, n] at z2; cases z2
            · exact m.2 w
end
/-! ### a < b < c; a module's constant -/
def fChain (g g' : D → D → Option W) (fa fb fc : Env → RE) : Env → RE := fun ρ => match fa ρ with
  | .ok wa ρ1 => (match fb ρ1 with
    | .ok wb ρ2 => (match g wa.d wb.d with
      | some (.pu (.bool true)) => (match fc ρ2 with
        | .ok wc ρ3 => resW (g' wb.d wc.d) ρ3
        | .err c d => .err c d
        | .st => .st)
      | some (.pu (.bool false)) => .ok (.pu (.bool false)) ρ2
      | _ => .st)
    | .err c d => .err c d
    | .st => .st)
  | .err c d => .err c d
  | .st => .st
section
variable {X : Cx} {E : XK} {a b c : Expr} {fa fb fc : Env → RE} {pos : Pos} {r r' : R2} {g g' : D → D → Option W} {op op' : CmpOp}
theorem chain_of {σ : L2.St} {H : Hp} {Q : VK} (h1 : Op2R X.K r g) (h2 : Op2R X.K r' g') (h : tDE X.K E (fChain g g' fa fb fc) σ H Q) : tChain r r' (tDE X.K E fa) (tDE X.K E fb) (tDE X.K E fc) σ H Q := by
  obtain ⟨τ, A0, P, ρ, S, z⟩ := h
  refine ⟨τ, A0, P, ρ, S, CDE.toD ?_⟩
  unfold fChain at z
  cases q : fa ρ with
  | err cc d => rw [q] at z; exact z
  | st => rw [q] at z; exact z
  | ok wa ρ1 =>
    rw [q] at z
    dsimp only at z
    intro v1 H1 P1 t1 S1 r1
    refine ⟨τ, A0, P1, ρ1, S1, CDE.toD ?_⟩
    cases q2 : fb ρ1 with
    | err cc d => rw [q2] at z; exact fun dx u H2 P2 t2 hx2 hr => z dx u H2 P2 (t1.trans t2) ⟨t1.al _ hx2.1, hx2.2⟩ hr
    | st => rw [q2] at z; exact z
    | ok wb ρ2 =>
      rw [q2] at z
      dsimp only at z
      intro v2 H2 P2 t2 S2 r2
      have fin : ∀ {w : W}, g wa.d wb.d = some w → (∀ v H3, Ext H2 H3 → Rp X.K (hid (P2 ++ A0) H3) v w.d → w = .pu w.d → ∃ k, v = .bl k ∧ if k = true then tDE X.K E fc σ H3 fun w' H4 => r' v2 w' H4 Q else Q (.bl false) H3) → (∀ ds, w ≠ .frs ds) →
          r v1 v2 H2 fun z H3 => ∃ k, z = .bl k ∧ if k = true then tDE X.K E fc σ H3 fun w' H4 => r' v2 w' H4 Q else Q (.bl false) H3 := fun {w} hg hq hn => by
        refine h1 (P2 ++ A0) H2 v1 v2 wa.d wb.d w _ S2.tr (r1.stp t2) r2 hg ?_
        cases w with
        | pu d => exact fun v H3 e3 r3 => hq v H3 e3 r3 rfl
        | frs ds => exact absurd rfl (hn ds)
      split at z
      · rename_i hg
        refine fin hg (fun v H3 e3 r3 _ => ⟨true, rp_bool r3, ?_⟩) fun ds w => nomatch w
        rw [if_pos rfl]
        refine ⟨τ, A0, P2, ρ2, S2.grow e3.gr, CDE.toD ?_⟩
        have t3 : Stp X.K H2 P2 H3 P2 := Stp.ext e3
        cases q3 : fc ρ2 with
        | err cc d => rw [q3] at z; exact fun dx u H4 P4 t4 hx2 hr => z dx u H4 P4 (t1.trans (t2.trans (t3.trans t4))) ⟨(t1.trans (t2.trans t3)).al _ hx2.1, hx2.2⟩ hr
        | st => rw [q3] at z; exact z
        | ok wc ρ3 =>
          rw [q3] at z
          dsimp only [resW] at z
          intro v4 H4 P4 t4 S4 r4
          cases q4 : g' wb.d wc.d with
          | none => rw [q4] at z; exact z.elim
          | some w =>
            rw [q4] at z
            exact h2 (P4 ++ A0) H4 v2 v4 wb.d wc.d w Q S4.tr ((r2.ext (Stp.hid t3)).stp t4) r4 q4 (giveW S4 (CDE.stp (t1.trans (t2.trans (t3.trans t4))) z))
      · rename_i hg
        refine fin hg (fun v H3 e3 r3 _ => ⟨false, rp_bool r3, ?_⟩) fun ds w => nomatch w
        rw [if_neg Bool.false_ne_true]
        exact z (.bl false) H3 P2 (t1.trans (t2.trans (Stp.ext e3))) (S2.grow e3.gr) (.bl false)
      · exact z.elim
theorem dt_chain (ho : OpR X (compareOp op) r) (h1 : Op2R X.K r g) (ho' : OpR X (compareOp op') r') (h2 : Op2R X.K r' g') (ha : DE X E a fa) (hb : DE X E b fb) (hc : DE X E c fc)
    (hm : lastMarks [op, op'] [b, c] = false := by with_unfolding_all rfl) : DT X E (.Compare a [op, op'] [b, c] pos) (fChain g g' fa fb fc) :=
  ⟨PT.weak (pt_chain ho ho' ha.pe hb.pe hc.pe hm) fun σ H Q h => chain_of h1 h2 h⟩
/-- a module's constant -/
theorem de_glob {x : Str} {v : V} {u : Value} {d : D} (hm : X.mg x = some u) (rl : RelV v u) (r : ∀ H, Rp X.K H v d) (hg : Gl X x := by rfl) (hd : (x == ("__debug__" : Str)) = false := by decide) : DE X E (.Name x pos) (fC d) := de_const (pe_glob hg hm rl hd) r
end
end DL
/-! D9: repr, cuts, list.index, list.count, the empty dict. -/
namespace DL
open PySem L2 PyProof.Rows

/-! ### repr -/
def gRepr : List D → Option W
  | [.dict []] => some (.pu (.str "{}"))
  | [d] => if d.canLay0 && d.showable && decide (d.shown.length ≤ sizeLine) && decide (d.depth ≤ 60) then some (.pu (.str d.shown)) else none
  | _ => none
def rRepr (K : PySem.W.Frag) : List V → Hp → VK → Prop := fun xs H Q => ∃ v d A, xs = [v] ∧ Rp K (hid A H) v d ∧ ((d = .dict [] ∧ Q (.str "{}") H) ∨ (d.canLay0 = true ∧ d.showable = true ∧ d.shown.length ≤ sizeLine ∧ d.depth ≤ 60 ∧ Q (.str d.shown) H))
section
variable {X : Cx} {E : XK} {m : Nat}
theorem shown_empty : (PyData.dict []).shown = ("{}" : Str) := by decide +kernel
theorem call_repr (c : Cn X E m) : CallR X (.builtin "repr") (rRepr X.K) := by
  intro pins s σ H xs us Q I r h
  obtain ⟨v, d, A, rfl, rd, q⟩ := h
  obtain ⟨u, rfl, ru⟩ := Vals.one r
  have un := c.rm.units
  have keep : ∀ {h' : Heap} {u2 : Tok} {tk : Nat} {x : Str}, (∀ b o, s.heap.get? b = some o → h'.get? b = some o) → Q (.str x) H → EP X pins σ Q (.str x u2) { s with heap := h', toks := tk } := fun {h' u2 tk x} hk q => ⟨.str x, H, I.kept hk, ⟨u2, rfl⟩, q⟩
  rcases q with ⟨rfl, q⟩ | ⟨hc, hs, hz, hd, q⟩
  · cases rd with
    | @emp ad h =>
      cases ru
      obtain ⟨_, ns, vs, kv, o, es, ep, e1, e2, e3, _, e5, _⟩ := I.hok _ _ (hid_of h).2
      have hcls : o.cls = .type "dict" := e2.1
      cases kv
      have hes : es.toList = [] := by
        cases hl : es.toList with
        | nil => rfl
        | cons x l => rw [hl] at e5; cases e5
      refine PySem.repr_of_reads' (d := .dict []) (as := [ad]) (h₀ := s.heap) (Reads.dict (kvs := []) (as := []) (bs := []) e1 hcls e3 (by rw [hes]; exact .nil) (by rw [hes]; exact .nil)) (by decide +kernel) (fun _ z => ?_) c.gd (by show X.A.units + (PyData.depth (.dict []) + 1) < cLine; simp only [PyData.depth, PyData.depthKv]; omega) (fun _ _ e => e) (fun h' u2 tk hk => ?_) (by rw [shown_empty]; decide +kernel)
      · rw [List.mem_singleton.mp z, beq_self_eq_true] at ns
        cases ns
      · rw [shown_empty]
        exact keep hk q
  · obtain ⟨as, rr⟩ := Dp.reads I d v u ((rd.ext hid_ext).dp hc) ru
    have go : ∀ a, u = .ref a → wpAny (model X.prog X.w) X.A (call (.builtin "repr") [u]) (EP X pins σ Q) X.xe s := fun a e => by
      subst e
      exact PySem.repr_of_reads' rr hs (fun z => by rw [PyData.hasDict_of_canLay d hc] at z; cases z) c.gd (by omega) (fun _ _ e => e) (fun h' u2 tk hk => keep hk q) hz
    cases rd with
    | non => cases ru; exact P.repr_of_none (keep (fun _ _ e => e) (by simpa only [PyData.shown] using q))
    | bl b => cases ru; exact P.repr_of_bool (keep (fun _ _ e => e) (by simpa only [PyData.shown] using q))
    | int i =>
      obtain ⟨t, rfl⟩ := ru
      exact P.repr_of_int (by simpa [PyData.showable] using hs) (keep (fun _ _ e => e) (by simpa only [PyData.shown] using q))
    | str x =>
      obtain ⟨t, rfl⟩ := ru
      exact P.repr_of_str (keep (fun _ _ e => e) (by simpa only [PyData.shown] using q)) (by simpa only [PyData.shown] using hz)
    | lst h r => cases ru; exact go _ rfl
    | tup h r => cases ru; exact go _ rfl
    | emp h => cases hc
    | exc h1 h2 r => cases hc
    | fn => cases hc
theorem cal_repr {K : PySem.W.Frag} : CalR K (rRepr K) gRepr := fun A H xs ds w Q tr r q gw => by
  unfold gRepr at q
  split at q
  · cases q
    obtain ⟨v, rfl, h1⟩ := rps_one r
    exact ⟨v, _, A, rfl, h1, .inl ⟨rfl, give_pu (.str _) gw⟩⟩
  · rename_i d _
    obtain ⟨v, rfl, h1⟩ := rps_one r
    by_cases c : (d.canLay0 && d.showable && decide (d.shown.length ≤ sizeLine) && decide (d.depth ≤ 60)) = true
    · rw [if_pos c] at q
      cases q
      simp only [Bool.and_eq_true, decide_eq_true_eq] at c
      exact ⟨v, d, A, rfl, h1, .inr ⟨c.1.1.1, c.1.1.2, c.1.2, c.2, give_pu (.str _) gw⟩⟩
    · rw [if_neg c] at q
      cases q
  · cases q
theorem d_repr {e : Expr} {fr : Env → RL} {p pos : Pos} (c : Cn X E m) (ha : DA X E [e] fr) (hm : X.mg "repr" = none) (hg : Gl X "repr" := by rfl) (he : starEach [e] X.env = (false, eval e X.env) :: starEach [] X.env := by rfl) :
    DE X E (.Call (.Name "repr" p) [e] [] pos) (bndA fr gRepr) := de_callB (call_repr c) cal_repr hg hm (by decide +kernel) ha (by decide) (by decide) he

/-! ### cuts with written bounds -/
theorem po_c {i : Int} {j p} : PO X (some (.Constant (.int i) j p)) (fun _ H Q => Q (some i) H) := by
  refine ⟨fun pins s σ H Q I h => (po_some (pe_int (i := i))).run pins s σ H Q I ⟨i, rfl, h⟩⟩
theorem po_n : PO X none (fun _ H Q => Q none H) := po_none
def cutD (ds : List D) (lo hi : Option Int) : List D := (ds.drop (HT.sIx ds.length 0 lo)).take (HT.sIx ds.length ds.length hi - HT.sIx ds.length 0 lo)
def gCut (lo hi : Option Int) : D → Option W
  | .list ds => some (.frs (cutD ds lo hi))
  | _ => none
theorem Rps.cut {K : PySem.W.Frag} {H : Hp} {vs : List V} {ds : List D} (r : Rps K H vs ds) (lo hi : Option Int) : Rps K H (cutV vs lo hi) (cutD ds lo hi) := by
  unfold cutV cutD
  rw [r.length]
  exact (r.drop _).take _
theorem de_cut {lo hi : Option Expr} {l h : Option Int} {e : Expr} {fa : Env → RE} {p2 pos : Pos} (hl : PO X lo (fun _ H Q => Q l H)) (hh : PO X hi (fun _ H Q => Q h H)) (ha : DE X E e fa) : DE X E (.Subscript e (.Slice lo hi none p2) pos) (fOp1 (gCut l h) fa) := by
  refine ⟨PE.weak (pe_slice sl_list ha.pe hl hh) fun σ H Q z => ?_⟩
  refine tde_bnd z fun v H' τ A0 P' ρ' d S r c => ?_
  unfold gCut at c
  cases d with
  | list ds =>
    obtain ⟨b, xs, rfl, h1, _, s1⟩ := rp_out r
    refine ⟨b, xs, rfl, .inl (.inl h1), fun p hp => ?_⟩
    have g := giveW S c
    exact give_lst (s1.cut l h) g p hp
  | _ => exact c.elim
end
end DL
/-! D10: own exceptions X(value), whose __init__ says super().__init__(value); self.value = value. -/
namespace DLX
open PySem PySem.W PySem.Calls PyProof.Rows PySem.HandSPX

def xA (p1 p2 p3 : Pos) (j : Nat) : Arguments := { posonlyargs := [], args := [⟨"self", none, p1⟩, ⟨"value", none, p2⟩], vararg := none, kwonlyargs := [], kw_defaults := [], kwarg := none, defaults := [.Constant .none j p3] }
def xB (a b c d e f g h i k : Pos) : List Stmt := [.Expr (.Call (.Attribute (.Call (.Name "super" a) [] [] b) "__init__" c) [.Name "value" d] [] e) f, .Assign [.Attribute (.Name "self" g) "value" h] (.Name "value" i) k]
def xS : Scope := { kind := .function, names := [(PySem.Str.ofString "self", .local), (PySem.Str.ofString "value", .local), (PySem.Str.ofString "__class__", .free), (PySem.Str.ofString "super", .globalImplicit)], isGenerator := false, isCoroutine := false, more := [] }

/-- what the written part says of an own exception class at C and its __init__ at fI -/
structure ExT (prog : Program) (K : Frag) (mg : Str → Option Value) (x : Str) (C : Addr) : Prop where
  gC : mg x = some (.ref C)
  noS : mg "super" = none
  top : (prog.main.scope.names.lookup ("super" : Str)).isSome = false
  kC : keepIn K (.ref C) = true
  cls : ∃ nm q N bs bm sn sub ab col dd k0 k1 k2 k3 k5, K.lookup C = some (excClassObj nm q C N bs bm true sn sub ab col dd k0 k1 k2 k3 k5 "ValueError.__new__") ∧ refsVE bm = true
  sa : findIn K (.ref C) "__setattr__" = some (some (.builtin "object.__setattr__"))
  ga : findIn K (.ref C) "__getattribute__" = some (some (.builtin "BaseException.__getattribute__"))
  gg : findIn K (.ref C) "__getattr__" = some none
  noN : findIn K (.ref C) "value" = some none
  exC : subIn K (.ref C) (.type "BaseException") = some true
  tyC : typeIn K (.ref C) = some (.type "type")
  hdC : hasDictIn K C = true
  sup : ks_superIn K C C "__init__" = some (some (.builtin "ValueError.__init__"))
  opq : nsIn K cStatics "thirdparty.any" = some none
  sV : subIn K (.ref C) (.type "ValueError") = some true
  mroC : mroIn K C (.ref C) = some true
  fn : ∃ (fI : Addr) (oc : Value) (od : Option Addr) (T : Addr) (kV doc pm : Value) (an : Option Addr) (cda cc : Addr) (ct : Value) (osl : Array (Option Value)) (qual : Str) (A : Arguments) (B : List Stmt),
    findIn K (.ref C) "__init__" = some (some (.ref fI)) ∧ typeIn K (.ref fI) = some (.type "function") ∧
    K.lookup fI = some ⟨oc, od, .func (ksFn "__init__" qual A B xS (.ref T) kV doc pm an (.ref cda) ct cc), osl⟩ ∧ (∃ (oT : Obj) (n : Nat), K.lookup T = some oT ∧ oT.data = .seq [Value.none].toArray n) ∧ codeIn K (.ref cda) qual = true ∧
    (∃ (p1 p2 p3 : Pos) (j : Nat), A = xA p1 p2 p3 j) ∧ (∃ a b c d e f g h i k : Pos, B = xB a b c d e f g h i k ∧ (c.endLine == e.line) = true) ∧
    (∃ (cl : Value) (cld : Option Addr) (csl : Array (Option Value)), K.lookup cc = some ⟨cl, cld, .cell (some (.ref C)), csl⟩) ∧
    ∃ (ccl : Value) (cdd : Option Addr) (vs : Array Value) (ccs : Array (Option Value)) (file : Str) (tf : Tok), K.lookup cda = some ⟨ccl, cdd, .fields vs, ccs⟩ ∧ vs[2]? = some (.str file tf) ∧ ((prog.main.file : Str) == file) = true

theorem one_size (v : Value) : [v].length ≤ sizeLine := by
  rw [sizeLine_eq]
  exact (by decide : 1 ≤ 16777216)
theorem kept_but {K : Frag} {h h' : Heap} {x : Addr} (X : K.In h) (hx : K.lookup x = none) (k : ∀ b o, b ≠ x → h.get? b = some o → h'.get? b = some o) : K.In h' := fun a o e =>
  k a o (fun z => by rw [z, hx] at e; cases e) (X a o e)
theorem xs_call {prog : Program} {w : World} {A : Around} {c : Code} {E : Value → Shared → Prop} {s : Shared} {env : Env} {o e : Expr} {name : Str} {apos pos : Pos} {Q : Value → Shared → Prop} (hline : (apos.endLine == pos.line) = true)
    (h : _root_.PySem.wpAt (model prog w) A c (attributeBase o name env (eval o env)) (fun ov s₁ => ∀ pl : Sem Bool, wpAny (model prog w) A (getMethod ov name pl) (fun fx s₂ => wpAny (model prog w) A (callWith pos fx.1 fx.2 (backTo pos (starEach [e] env)) []) Q E s₂) E s₁) E s)
    (hform : methodCallForm 1 (backTo pos (starEach [e] env)) (backToKw pos (keywordEach [] env)) = true := by rfl) :
    _root_.PySem.wpAt (model prog w) A c (eval (.Call (.Attribute o name apos) [e] [] pos) env) Q E s := by
  rw [arm_eval_Call]
  refine _root_.PySem.wpAt_bind (ks_wpAt_mono h (fun ov s1 h1 => _root_.PySem.wpAt_of_wpAny (wpAny_bind (wpAny_standAt ?_))) fun _ _ x => x)
  have hpos : methodCallPos true o env apos pos = pure pos := by
    unfold methodCallPos
    simp [hline]
  show wpAny _ _ (methodCall o name apos pos env ov 1 (backTo pos (starEach [e] env)) (backToKw pos (keywordEach [] env))) _ _ _
  unfold methodCall
  rw [hform]
  refine wpAny_bind (wpAny_holding ?_)
  have key : ∀ (fx : Value × List Value) (s2 : Shared), wpAny (model prog w) A (callWith pos fx.1 fx.2 (backTo pos (starEach [e] env)) []) Q E s2 → wpAny (model prog w) A (do
      let callPos ← methodCallPos true o env apos pos
      callWith callPos fx.1 fx.2 (backTo pos (starEach [e] env)) (backToKw pos (keywordEach [] env))) Q E s2 := fun fx s2 z => by
    rw [hpos]
    exact wpAny_bind (wpAny_pure z)
  exact wpAny_mono (h1 _) (fun fx s2 z => key fx s2 z) fun _ _ x => x
/-- the module's side of a heap -/
structure Glo (prog : Program) (mg : Str → Option Value) (h : Heap) : Prop where
  g : h.Ns mainGlobals mg
  b : ∃ mb, h.Ns builtinsNs mb ∧ ∀ x : Str, x ≠ "__name__" → mb x = bootBuiltins x
  lim : h.NoLimit
theorem Glo.keeps {prog : Program} {mg : Str → Option Value} {h h' : Heap} (G : Glo prog mg h) (k : ∀ b o, h.get? b = some o → h'.get? b = some o) : Glo prog mg h' := by
  obtain ⟨mb, h1, h2⟩ := G.b
  exact ⟨G.g.keeps k, ⟨mb, h1.keeps k, h2⟩, G.lim.keeps k⟩
/-- what __init__ leaves of a fresh exception at x -/
structure InitEnd (h h' : Heap) (x C dx t1 : Addr) (v : Value) : Prop where
  keep : ∀ b o, b ≠ x → h.get? b = some o → h'.get? b = some o
  obj : h'.get? x = some { cls := .ref C, dict := some dx, data := .fields #[.ref t1, .none, .none, .none, .bool false, .none] }
  dbig : h.objs.size ≤ dx
  dne : dx ≠ x
  ns : h'.Ns1 dx (fun y => if y = "value" then some v else none)
section
variable {prog : Program} {w : World} {A : Around} {E : Value → Shared → Prop} {R : Result → Shared → Prop} {s : Shared} {K : Frag} {mg : Str → Option Value} {C : Addr} {cn : Str}
theorem ex_init (T : ExT prog K mg cn C) {x t0 fI : Addr} {v : Value} (X : K.In s.heap) (G : Glo prog mg s.heap) (hi : findIn K (.ref C) "__init__" = some (some (.ref fI))) (hx : s.heap.get? x = some (excO C t0)) (hnx : K.lookup x = none) (hroom : A.depth < recursionLimit)
    (hq : ∀ h' tk dx t1, InitEnd s.heap h' x C dx t1 v → R (.ok (.ret .none)) { s with heap := h', toks := tk }) :
    codeAny (model prog w) A (.call (.ref fI) ⟨[.ref x, v], []⟩) R s := by
  obtain ⟨fI', oc, od, TD, kV, doc, pm, an, cda, cc, ct, osl, qual, AA, BB, hi', tI, ho, ⟨oT, nT, hT, hTd⟩, hcd, ⟨p1, p2, p3, j, rfl⟩, ⟨a, b, c, d, e, f, g, h, i, k, rfl, hln⟩, ⟨cl, cld, csl, hcell⟩, ccl, cdd, vs, ccs, file, tf, hcode, hvs, hfile⟩ := T.fn
  rw [hi] at hi'
  cases hi'
  obtain ⟨nm, q, N, bs, bm, sn, sub, ab, col, dd, k0, k1, k2, k3, k5, hC, hbm⟩ := T.cls
  have hcl : clsIn K C = some { name := nm, bases := bs, mro := .ref C :: bm, ns := N, qualname := q, hasDict := true, slotNames := sn, subclasses := sub, abstract := ab, collection := col, hasDel := false } := by unfold clsIn; rw [hC] <;> rfl
  refine ks_codeAny_call_defAt (fd := ksFn "__init__" qual (xA p1 p2 p3 j) (xB a b c d e f g h i k) xS (.ref TD) kV doc pm an (.ref cda) ct cc) (binds := [("self", .ref x), ("value", v)]) hroom (X _ _ ho) rfl G.lim (codeRec_of X hcd) rfl (BindsTo.of_defaults (T := TD) rfl (X _ _ hT) hTd (by first | rfl | with_unfolding_all rfl) (by first | rfl | with_unfolding_all rfl)) (by show ∀ y ∈ xS.names, y.2 ≠ .cell; decide) (by
    intro y hy
    rcases List.mem_cons.mp hy with z | hy
    · rw [z]; rfl
    · rw [List.mem_singleton.mp hy]; rfl) (fun h₁ hns hk₁ => ?_)
  have X₁ : K.In h₁ := X.keeps hk₁
  have G₁ := G.keeps hk₁
  have hx₁ := hk₁ _ _ hx
  have IA : InstAt h₁ x (excO C t0) C none := ⟨hx₁, rfl, rfl, trivial⟩
  obtain ⟨hp, gs, dr, tk, os⟩ := s
  obtain ⟨oD, hD1, hD2⟩ : ∃ oD, h₁.get? C = some oD ∧ ∃ cd, oD.data = .cls cd := ⟨_, X₁ _ _ hC, _, rfl⟩
  obtain ⟨cdD, hD2⟩ := hD2
  refine ks_wpAt_execs_cons (ks_wpAt_Expr_any (xs_call hln ?_))
  obtain ⟨mb, hb1, hb2⟩ := G₁.b
  refine ks_wpAt_super_base (env := ksEnv qual xS hp.objs.size fI (.ref cda) cc) (by rfl) (by rfl) (by decide) rfl (X₁ _ _ ho) rfl (by rfl) rfl (X₁ _ _ hcode) rfl hvs hfile T.top ?_
  refine ks_loadName_global (by rfl) (by rfl) (loadGlobal_builtin (env := ksEnv qual xS hp.objs.size fI (.ref cda) cc) G₁.g T.noS hb1 ((hb2 _ (by decide +kernel)).trans (by kernel_rfl)) ⟨rfl, ?_⟩)
  refine wpAny_loadName_free (by rfl) (by rfl) (by rfl) ⟨_, X₁ _ _ hcell, rfl⟩ ?_
  refine wpAny_loadName_local (by rfl) (by rfl) hns (by first | rfl | with_unfolding_all rfl | kernel_rfl) ?_
  refine ks_wpAny_isType_cls hD1 hD2 ⟨rfl, ?_⟩
  refine ks_wpAny_call_super hD1 hD2 IA.at_ IA.cls (fun c e => ?_) (looks_mroIn X₁ T.mroC) (fun h2 e2 kk2 => ?_)
  · have := IA.no
    unfold notCls at this
    rw [e] at this
    exact Bool.noConfusion this
  have X₂ : K.In h2 := X₁.keeps kk2
  have hx₂ := kk2 _ _ hx₁
  have IA2 : InstAt h2 x (excO C t0) C none := ⟨hx₂, rfl, rfl, trivial⟩
  have hxC : x ≠ C := fun z => by rw [z] at hx₂; rw [X₂ _ _ hC] at hx₂; cases hx₂
  have hI : Looks (model prog w) h2 (isInstance (.ref x) (.type "ValueError")) true := IA2.type.andThen (looks_subIn X₂ T.sV)
  have hsup := T.sup
  unfold ks_superIn at hsup
  rw [hcl] at hsup
  intro pl
  have hC₂ := X₂ _ _ hC
  have hmro : Looks (model prog w) h2 (mroOf (.ref C)) (.ref C :: bm) := (looks_clsIn X₂ hcl).andThen .now
  refine kxs_getMethod kxs_ValueError e2 (looks_opaque X₂ T.opq) hmro rfl X₂ hsup hI hxC (by decide) ?_
  have kk3 : ∀ b o, h2.get? b = some o → (h2.push (kxs_mw "ValueError.__init__" x)).get? b = some o := fun b o z => Heap.get?_push_of_some _ z
  have hu3 : (h2.push (kxs_mw "ValueError.__init__" x)).get? h2.objs.size = some (kxs_mw "ValueError.__init__" x) := Heap.get?_push_at rfl rfl
  have hns3 := (hns.keeps kk2).keeps kk3
  have X₃ : K.In (h2.push (kxs_mw "ValueError.__init__" x)) := X₂.keeps kk3
  have hx₃ := kk3 _ _ hx₂
  have hC₃ := X₃ _ _ hC
  have hvl : ∀ {A' : Around} {E' : Value → Shared → Prop} {Q' : Value → Shared → Prop} {h' : Heap} {t' : Nat} {pp : Pos}, h'.Ns hp.objs.size (fun y => [(("self" : Str), Value.ref x), (("value" : Str), v)].reverse.lookup y) → Q' v ⟨h', gs, dr, t', os⟩ → wpAny (model prog w) A' (eval (.Name "value" pp) (ksEnv qual xS hp.objs.size fI (.ref cda) cc)) Q' E' ⟨h', gs, dr, t', os⟩ := fun hn q =>
    wpAny_Name (wpAny_loadName_local (by rfl) (by rfl) hn (by first | rfl | with_unfolding_all rfl | kernel_rfl) q) (by decide)
  refine kxs_callWith (i := "ValueError.__init__") (x := x) (u := h2.objs.size) (by rfl) (evalArgs_plain ?_)
  refine Calls.spliced_cons (hvl hns3 ?_)
  refine Calls.spliced_nil ⟨hu3, ?_⟩
  refine wpAny_call (codeAny_of_tree ?_)
  show wpAny _ (Around.in1 _) (callAny (.ref h2.objs.size) ⟨[v], []⟩) _ _ _
  simp only [callAny]
  refine wpAny_bind (wpAny_load hu3 ?_)
  have tt : (Value.type "method-wrapper" == Value.type "method" || Value.type "method-wrapper" == Value.type "builtin_function_or_method"
      || Value.type "method-wrapper" == Value.type "method-wrapper") = true := by decide
  simp only [kxs_mw, tt, if_true]
  refine KFB.if_so (by decide) ?_
  have FB := PySem.F.excBase_ValueError
  refine wpAny_bind (check_bound_init FB.toExcCallFacts hC₃ hx₃ rfl ?_)
  refine wpAny_bind (wpAny_pure (wpAny_pure ?_))
  refine ⟨plainId_quiet FB.init.plain _, codeAny_builtin FB.initEntry ?_⟩
  refine exc_init_tree (cls := .ref C) (t0 := t0) (dv := none) (c2 := .none) (c3 := .none) (b4 := .bool false) hx₃ (one_size v) fun h4 kk4 ex4 et4 => ?_
  -- self.value = value
  refine _root_.PySem.wpAt_of_wpAny ?_
  have hxlt : x < hp.objs.size := Heap.lt_size hx
  have l1 : hp.objs.size < h₁.objs.size := hns.lt
  have l2 : h₁.objs.size < h2.objs.size := Heap.lt_size e2
  have l3 : (h2.push (kxs_mw "ValueError.__init__" x)).objs.size < h4.objs.size := Heap.lt_size et4
  have l3' : h2.objs.size < h4.objs.size := by
    rw [Heap.size_push] at l3
    omega
  have hns4 : h4.Ns hp.objs.size (fun y => [(("self" : Str), Value.ref x), (("value" : Str), v)].reverse.lookup y) := by
    obtain ⟨oL, es, ep, hL, r⟩ := hns3
    exact ⟨oL, es, ep, kk4 _ _ (Nat.ne_of_gt hxlt) hL, r⟩
  have X₄ : K.In h4 := kept_but X₃ hnx kk4
  have IA4 : InstAt h4 x _ C none := ⟨ex4, rfl, rfl, trivial⟩
  show wpAny _ _ (execs _ _) _ _ _
  refine wpAny_execs_cons (plainObj_wpAny_Assign_Attribute ?_)
  refine hvl hns4 ?_
  refine wpAny_Name (wpAny_loadName_local (by rfl) (by rfl) hns4 (v := .ref x) (by first | rfl | with_unfolding_all rfl | kernel_rfl) ?_) (by decide)
  refine set_plain X₄ IA4 T.sa ?_
  refine exc_osa X₄ ex4 hcl (show refsVE (.ref C :: bm) = true from hbm) rfl T.noN (fun h5 tk5 dx k5' dn dne hx5 hn5 => ?_)
  refine wpAny_execs_nil (hq h5 tk5 dx _ ⟨fun b o hb z => k5' b o hb (kk4 b o hb (kk3 _ _ (kk2 _ _ (hk₁ _ _ z)))), hx5, ?_, dne, hn5⟩)
  have dn' : h4.objs.size ≤ dx := dn
  show hp.objs.size ≤ dx
  omega
/-- a made X(v) -/
structure OwnMade (h h' : Heap) (e C d : Addr) (v : Value) : Prop where
  keep : ∀ b o, h.get? b = some o → h'.get? b = some o
  new : h.objs.size ≤ e
  obj : ∃ oe vs, h'.get? e = some oe ∧ oe.cls = .ref C ∧ oe.dict = some d ∧ oe.data = .fields vs ∧ vs[1]? = some .none
  dbig : h.objs.size ≤ d
  dne : d ≠ e
  ns : h'.Ns1 d (fun y => if y = "value" then some v else none)
theorem ex_made (T : ExT prog K mg cn C) {v : Value} (X : K.In s.heap) (G : Glo prog mg s.heap) (hroom : A.depth + 1 < recursionLimit)
    (hq : ∀ h' tk e d, OwnMade s.heap h' e C d v → R (.ok (.ret (.ref e))) { s with heap := h', toks := tk }) :
    codeAny (model prog w) A (.call (.ref C) ⟨[v], []⟩) R s := by
  obtain ⟨nm, q, N, bs, bm, sn, sub, ab, col, dd, k0, k1, k2, k3, k5, hC, hbm⟩ := T.cls
  have fn := T.fn
  obtain ⟨fI, _, _, _, _, _, _, _, _, _, _, _, _, _, _, iC, tC, _⟩ := fn
  obtain ⟨hp, g, dr, tk, os⟩ := s
  have k : ∀ b o, hp.get? b = some o → ((hp.push (kdv_tup [v])).push (excO C hp.objs.size)).get? b = some o := fun b o e => Heap.get?_push_of_some _ (Heap.get?_push_of_some _ e)
  have hget : ((hp.push (kdv_tup [v])).push (excO C hp.objs.size)).get? (hp.objs.size + 1) = some (excO C hp.objs.size) := by heap_get
  have hnx : K.lookup (hp.objs.size + 1) = none := by
    cases e : K.lookup (hp.objs.size + 1) with
    | none => rfl
    | some o =>
      have z : hp.get? (hp.objs.size + 1) = some o := X _ _ e
      exact absurd (Nat.lt_of_succ_lt (Heap.lt_size z)) (Nat.lt_irrefl _)
  refine call_own PySem.F.excBase_ValueError (fun X => refsVE_contains X bm hbm) (X _ _ hC) (looks_findIn X iC) (fun self => bind_fn X self tC) (one_size v) ?_
  refine ex_init (s := ⟨(hp.push (kdv_tup [v])).push (excO C hp.objs.size), g, dr, tk, os⟩) T (X.keeps k) (G.keeps k) iC hget hnx ?_ fun h' tk' dx t1 ⟨k', hx, dn, dne, hns⟩ => ?_
  · show A.depth + 1 < recursionLimit
    exact hroom
  · have old : ∀ b o, hp.get? b = some o → h'.get? b = some o := fun b o e => k' b o (Nat.ne_of_lt (Nat.lt_succ_of_lt (Heap.lt_size e))) (k b o e)
    have z : hp.objs.size + 1 + 1 ≤ dx := by
      have q := dn
      rw [Heap.size_push, Heap.size_push] at q
      exact q
    exact ⟨rfl, hq h' tk' (hp.objs.size + 1) dx ⟨old, Nat.le_succ _, ⟨_, _, hx, rfl, rfl, rfl, rfl⟩, Nat.le_trans (Nat.le_trans (Nat.le_succ _) (Nat.le_succ _)) z, dne, hns⟩⟩
end
end DLX
/-! D11: raise X(e); an exception that is held. -/
namespace DL
open PySem L2 PyProof.Rows DLX

theorem relO_value {v : V} {v' : Value} (r : RelV v v') (f : Str) : RelO (List.lookup f [(("value" : Str), v)]) (if f = "value" then some v' else none) := by
  by_cases hw : f = "value"
  · rw [hw, if_pos rfl]
    have q : List.lookup ("value" : Str) [(("value" : Str), v)] = some v := by simp [List.lookup]
    rw [q]
    exact r
  · rw [if_neg hw]
    have q2 : List.lookup f [(("value" : Str), v)] = none := by
      have qw : (f == ("value" : Str)) = false := by simpa using hw
      simp [List.lookup, qw]
    rw [q2]
    trivial
section
variable {X : Cx} {E : XK} {C : Addr} {cn : Str} {k : Nat}
theorem glo_of {pins : List (Addr × Obj)} {σ : L2.St} {H : Hp} {s : Shared} (I : Inv X pins σ H s) : Glo X.prog X.mg s.heap := by
  obtain ⟨mb, h1, h2⟩ := I.mod.blt
  exact ⟨I.mod.glob.keeps I.bk, ⟨mb, h1.keeps I.bk, h2⟩, I.nolimit⟩
/-- X(e) -/
theorem pmk_x {a : Expr} {ta : TA} {p pos : Pos} (T : ExT X.prog X.K X.mg cn C) (hr : Room k X.A) (ha : PA X [a] ta) (hg : Gl X cn) (hdb : (cn == ("__debug__" : Str)) = false)
    (he : starEach (a :: []) X.env = (false, eval a X.env) :: starEach [] X.env := by rfl) (hpl : (backTo pos (starEach [] X.env)).any (·.1) = false := by rfl) :
    PMk X (.Call (.Name cn p) [a] [] pos) (fun σ H Q => ta σ H fun vs H1 => ∃ v, vs = [v] ∧ ∀ d, H1 d = none → Q (.ref C) (some d) (upd H1 d (.xd [(("value" : Str), v)]))) := by
  intro pins s σ H Q I h
  refine wpAny_Call_Name_kw (ld_glob I hg T.gC ?_ hdb)
  refine PySem.W.callWith_K (h₀ := X.base) I.ok.mod.kin T.kC (thn (ha.run pos pins s σ H _ I h) fun us s1 hh => ?_) he hpl
  obtain ⟨vs, H1, I1, r1, v, ev, q1⟩ := hh
  subst ev
  refine ⟨I1.kIn, ?_⟩
  obtain ⟨v', rfl, rv⟩ := Vals.one r1
  have G1 := glo_of I1
  obtain ⟨hp, g, dr, tk, os⟩ := s1
  refine wpAny_call (ex_made T I1.kIn G1 (by have := hr.dp; omega) fun h' tk' e d M => ?_)
  show MkP X pins σ Q (.ref e) ⟨h', g, dr, tk', os⟩
  obtain ⟨oe, fv, hoe, hc, hd, hdat, h1⟩ := M.obj
  have hns := M.ns
  obtain ⟨G', g1, g2⟩ := restrict h' fun b => decide (b ≠ e)
  have gk : ∀ b, b ≠ e → G'.get? b = h'.get? b := fun b hb => g1 b (decide_eq_true hb)
  have ge : G'.get? e = none := g2 e (by simp)
  have old : ∀ b o, hp.get? b = some o → G'.get? b = some o := fun b o q => (gk b (Nat.ne_of_lt (Nat.lt_of_lt_of_le (Heap.lt_size q) M.new))).trans (M.keep b o q)
  have ob : ObjOk X.prog X.w (upd H1 d (.xd [(("value" : Str), v)])) G' d (.xd [(("value" : Str), v)]) := ⟨_, hns.at (fun o q => (gk d M.dne).trans q), fun f => relO_value rv f⟩
  have J : Inv X pins σ (upd H1 d (.xd [(("value" : Str), v)])) ⟨G', g, dr, tk', os⟩ := I1.laid (t' := tk') old M.dbig ob
  refine ⟨e, oe, fv, ⟨G', g, dr, tk', os⟩, _, .ref C, some d, rfl, J, fun b o q => ?_, ge, hoe, ⟨hc, hd⟩, hdat, h1, ?_, rfl, I1.bare, raises_own T.exC T.tyC, q1 d (I1.hok.fresh M.dbig)⟩
  · by_cases hb : b = e
    · have q' : G'.get? b = some o := q
      rw [hb, ge] at q'; cases q'
    · exact (gk b hb).symm.trans q
  · rw [upd_ne (Ne.symm M.dne)]
    exact I1.hok.fresh M.new
def sRaise (C : Addr) (fs : Env → RL) : Env → RS := fun ρ => match fs ρ with
  | .ok [d] _ => .err C d
  | .ok _ _ => .st
  | .err c d => .err c d
  | .st => .st
theorem ds_raise {a : Expr} {fs : Env → RL} {p pos pos2 : Pos} (T : ExT X.prog X.K X.mg cn C) (c : Cn X E k) (ha : DA X E [a] fs) (hg : Gl X cn := by rfl) (hdb : (cn == ("__debug__" : Str)) = false := by decide)
    (he : starEach (a :: []) X.env = (false, eval a X.env) :: starEach [] X.env := by rfl) (hpl : (backTo pos (starEach [] X.env)).any (·.1) = false := by rfl) :
    DS X E (.Raise (some (.Call (.Name cn p) [a] [] pos)) none pos2) (sRaise C fs) := by
  refine ⟨PS.weak (ps_raise c.cm c.tk (pmk_x T c.rm ha.pa hg hdb he hpl)) fun Dn σ H ⟨τ, A0, P, ρ, S, z⟩ => ⟨τ, A0, P, ρ, S, ?_⟩⟩
  unfold sRaise at z
  cases q : fs ρ with
  | err cc d => rw [q] at z; exact z
  | st => rw [q] at z; exact z
  | ok ds ρ1 =>
    rw [q] at z
    intro vs H1 P1 t1 S1 r1
    cases ds with
    | nil => exact z.elim
    | cons d ds =>
      cases ds with
      | cons _ _ => exact z.elim
      | nil =>
        obtain ⟨v, rfl, rv⟩ := rps_one r1
        refine ⟨v, rfl, fun dx hdx => ?_⟩
        have ex : Ext H1 (upd H1 dx (.xd [(("value" : Str), v)])) := Evl.Ex.new hdx
        exact z dx v _ P1 (t1.trans (Stp.ext ex)) ⟨t1.al dx hdx, upd_same⟩ (rv.ext (Gr.hid (K := X.K) ex.gr))
end
end DL
/-! D12: names bound to comprehensions on the same line. -/
namespace DL
open PySem L2 PyProof.Rows
section
variable {X : Cx} {E : XK} {elt tg iter : Expr} {ifs : List Expr} {scope : Scope} {own : List (Str × Nat)} {pos spos py : Pos} {src : Env → RI} {bind : D → Env → Option Env} {ft fe : Env → RE} {g : TG} {js : List Nat} {i : Nat} {y : Str}
/-- name = [elt for tg in iter if ifs] -/
theorem ps_lc (hc : X.calm = true) (hN : X.N.Nodup) (hy : X.N[i]? = some y) (hi : DI X E tg iter src) (ok : BlkOk X.N X.env.scope scope own) (hb : GtOk X.K g bind js) (hjs : ∀ j ∈ js, j ∈ own.map (·.2))
    (hg : ∀ (s : Shared) (H : Hp) (C : Addr) (cl : List (Str × Addr)) (fp : List Addr), PG (X.blk s H scope (compEnvC scope cl C X.env) fp) tg g) (ht : ∀ (s : Shared) (H : Hp) (C : Addr) (cl : List (Str × Addr)) (fp : List Addr), DTs (X.blk s H scope (compEnvC scope cl C X.env) fp) E0 ifs ft)
    (he : ∀ (s : Shared) (H : Hp) (C : Addr) (cl : List (Str × Addr)) (fp : List Addr), DE (X.blk s H scope (compEnvC scope cl C X.env) fp) E0 elt fe)
    (hyl : X.env.scope.names.lookup y = some .local) (hk : X.env.scope.kind = .function := by rfl) (hl : (py.line == pos.line) = true := by rfl) (ha : (scope.names.any fun (n, k) => n == y && (k == .local || k == .cell)) = false := by decide) (hs : ∀ x, foldedSetIterable iter X.env x = pure x := by intro _; rfl) :
    PS X (.Assign [.Name y py] (.ListComp elt [⟨tg, iter, ifs, 0⟩] scope pos) spos) (tAsg (tDE X.K E (fLc src bind ft fe (own.map (·.2)))) (gName i)) :=
  PS.weak (ps_setLc hc hN hy hyl (sw_true hk hyl hl ha) hi.pi ok hg (fun s H C cl fp => (ht s H C cl fp).pts) (fun s H C cl fp => (he s H C cl fp).pe) hs) fun Dn σ H h => lc_of hb hjs h
theorem put_of {K : PySem.W.Frag} {fe : Env → RE} {Dn : Ends} {σ : L2.St} {H : Hp} (h : tDS K E (sPut i fe) Dn σ H) : tAsg (tDE K E fe) (gName i) Dn σ H := by
  obtain ⟨τ, A0, P, ρ, S, c⟩ := h
  refine ⟨τ, A0, P, ρ, S, CDE.toD ?_⟩
  unfold sPut sE at c
  cases q : fe ρ with
  | ok w ρ1 =>
    rw [q] at c
    exact fun v H' P' t S' r => c _ H' P' t (S'.put r i)
  | err cc d => rw [q] at c; exact c
  | st => rw [q] at c; exact c
theorem own_of {K : PySem.W.Frag} {fe : Env → RE} {Dn : Ends} {σ : L2.St} {H : Hp} (h : tDS K E (sOwn i fe) Dn σ H) : tAsg (tDE K E fe) (gName i) Dn σ H := by
  obtain ⟨τ, A0, P, ρ, S, c⟩ := h
  refine ⟨τ, A0, P, ρ, S, ?_⟩
  unfold sOwn sE at c
  cases q : fe ρ with
  | ok w ρ1 =>
    rw [q] at c
    cases w with
    | pu d => exact c.elim
    | frs ds =>
      dsimp only at c
      by_cases hnn : noN ρ1 = true
      · rw [if_pos hnn] at c
        exact fun p xs H' P' t n n1 n2 S' hl r => c _ H' (p :: P') ⟨t.kp, fun a z => (List.mem_cons.mp z).elim (fun z => .inr (by rw [z]; exact n)) (t.nw a), t.al, t.tb⟩ (S'.own_ n2 hl r i hnn)
      · rw [if_neg hnn] at c
        exact c.elim
  | err cc d => rw [q] at c; exact c
  | st => rw [q] at c; exact c
theorem ds_lc {fe : Env → RE} {st : Stmt} (h : PS X st (tAsg (tDE X.K E fe) (gName i))) : DS X E st (sPut i fe) := ⟨PS.weak h fun _ _ _ z => put_of z⟩
theorem ds_lcOwn {fe : Env → RE} {st : Stmt} (h : PS X st (tAsg (tDE X.K E fe) (gName i))) : DS X E st (sOwn i fe) := ⟨PS.weak h fun _ _ _ z => own_of z⟩
end
end DL
/-! D13: built-in functions by their names, tests. -/
namespace DL
open PySem L2 PyProof.Rows
/-- names that the module does not bind -/
structure Bl (mg : Str → Option Value) : Prop where
  len : mg "len" = none
  isi : mg "isinstance" = none
  int : mg "int" = none
  bool : mg "bool" = none
  str : mg "str" = none
  list : mg "list" = none
  tuple : mg "tuple" = none
  max : mg "max" = none
  sum : mg "sum" = none
  enum : mg "enumerate" = none
  range : mg "range" = none
  repr : mg "repr" = none
theorem bt_int : bootBuiltins "int" = some (.type "int") := by decide +kernel
theorem bt_bool : bootBuiltins "bool" = some (.type "bool") := by decide +kernel
theorem bt_str : bootBuiltins "str" = some (.type "str") := by decide +kernel
theorem bt_list : bootBuiltins "list" = some (.type "list") := by decide +kernel
theorem bt_tuple : bootBuiltins "tuple" = some (.type "tuple") := by decide +kernel
theorem bt_len : bootBuiltins "len" = some (.builtin "len") := by decide +kernel
theorem bt_max : bootBuiltins "max" = some (.builtin "max") := by decide +kernel
theorem bt_sum : bootBuiltins "sum" = some (.builtin "sum") := by decide +kernel
section
variable {X : Cx} {E : XK} {e a b : Expr} {es : List Expr} {fa fb : Env → RE} {fr : Env → RL} {p p2 pos : Pos} {k : Nat}
theorem d_len (B : Bl X.mg) (ha : DA X E [e] fr) (hg : Gl X "len" := by rfl) (he : starEach [e] X.env = (false, eval e X.env) :: starEach [] X.env := by rfl) : DE X E (.Call (.Name "len" p) [e] [] pos) (bndA fr gLen) := de_callB call_len cal_len hg B.len bt_len ha (by decide) (by decide) he
theorem d_sum (c : Cn X E k) (B : Bl X.mg) (ha : DA X E [e] fr) (hg : Gl X "sum" := by rfl) (he : starEach [e] X.env = (false, eval e X.env) :: starEach [] X.env := by rfl) : DE X E (.Call (.Name "sum" p) [e] [] pos) (bndA fr gSum) := de_callB (cr_sum c.cm) cal_sum hg B.sum bt_sum ha (by decide) (by decide) he
theorem d_max2 (c : Cn X E k) (B : Bl X.mg) (ha : DA X E [a, b] fr) (hg : Gl X "max" := by rfl) (he : starEach [a, b] X.env = (false, eval a X.env) :: starEach [b] X.env := by rfl) (hpl : (backTo pos (starEach [b] X.env)).any (·.1) = false := by rfl) : DE X E (.Call (.Name "max" p) [a, b] [] pos) (bndA fr gMax2) := de_callB (call_max2 c.cm) cal_max2 hg B.max bt_max ha (by decide) (by decide) he hpl
theorem d_int (B : Bl X.mg) (ha : DA X E [e] fr) (hg : Gl X "int" := by rfl) (he : starEach [e] X.env = (false, eval e X.env) :: starEach [] X.env := by rfl) : DE X E (.Call (.Name "int" p) [e] [] pos) (bndA fr gInt1) := de_callTy call_int1 cal_int1 hg B.int bt_int ha (by decide) (by decide) he
theorem d_list (B : Bl X.mg) (ha : DA X E [e] fr) (hg : Gl X "list" := by rfl) (he : starEach [e] X.env = (false, eval e X.env) :: starEach [] X.env := by rfl) : DE X E (.Call (.Name "list" p) [e] [] pos) (bndA fr gListOf) := de_callTy call_list_of cal_list hg B.list bt_list ha (by decide) (by decide) he
theorem d_tupleOf (B : Bl X.mg) (ha : DA X E [e] fr) (hg : Gl X "tuple" := by rfl) (he : starEach [e] X.env = (false, eval e X.env) :: starEach [] X.env := by rfl) : DE X E (.Call (.Name "tuple" p) [e] [] pos) (bndA fr gTupleOf) := de_callTy call_tuple_of cal_tuple hg B.tuple bt_tuple ha (by decide) (by decide) he
/-- isinstance(e, T) -/
theorem d_isi (B : Bl X.mg) (n : Str) (T : String) (hT : tyOk T = true) (hm : X.mg n = none) (hv : bootBuiltins n = some (.type T)) (ha : DE X E e fa) (hg : Gl X "isinstance" := by rfl) (hgT : Gl X n := by rfl) (hn : n ≠ "__name__" := by decide) (hdT : (n == ("__debug__" : Str)) = false := by decide)
    (he : starEach [e, .Name n p2] X.env = (false, eval e X.env) :: starEach [.Name n p2] X.env := by rfl) (he2 : starEach [.Name n p2] X.env = (false, eval (.Name n p2) X.env) :: starEach [] X.env := by rfl) (hpl : (backTo pos (starEach [.Name n p2] X.env)).any (·.1) = false := by rfl) :
    DE X E (.Call (.Name "isinstance" p) [e, .Name n p2] [] pos) (fOp1 (gIsi T) fa) := de_isi hT hg B.isi hgT hm hv ha hn hdT he he2 hpl
theorem d_isi2 (B : Bl X.mg) (n1 n2 : Str) (T1 T2 : String) {kk : Nat} {p3 p4 : Pos} (hT1 : tyOk T1 = true) (hT2 : tyOk T2 = true) (hm1 : X.mg n1 = none) (hv1 : bootBuiltins n1 = some (.type T1)) (hm2 : X.mg n2 = none) (hv2 : bootBuiltins n2 = some (.type T2)) (ha : DE X E e fa)
    (hg : Gl X "isinstance" := by rfl) (hg1 : Gl X n1 := by rfl) (hg2 : Gl X n2 := by rfl)
    (hn1 : n1 ≠ "__name__" := by decide) (hd1 : (n1 == ("__debug__" : Str)) = false := by decide) (hn2 : n2 ≠ "__name__" := by decide) (hd2 : (n2 == ("__debug__" : Str)) = false := by decide)
    (he : starEach [e, .Tuple [.Name n1 p2, .Name n2 p3] kk p4] X.env = (false, eval e X.env) :: starEach [.Tuple [.Name n1 p2, .Name n2 p3] kk p4] X.env := by rfl)
    (hpl : (backTo pos (starEach [.Tuple [.Name n1 p2, .Name n2 p3] kk p4] X.env)).any (·.1) = false := by rfl) :
    DE X E (.Call (.Name "isinstance" p) [e, .Tuple [.Name n1 p2, .Name n2 p3] kk p4] [] pos) (fOp1 (gIsi2 T1 T2) fa) := de_isi2 hT1 hT2 hg B.isi hg1 hm1 hv1 hg2 hm2 hv2 ha hn1 hd1 hn2 hd2 he hpl
/-- tests -/
theorem t_lt (ha : DE X E a fa) (hb : DE X E b fb) : DT X E (.Compare a [.Lt] [b] pos) (fOp2 gLt fa fb) := dt_cmp op_lt (op2_I0 fun _ _ _ => .bl _) ha hb (nomark _)
theorem t_le (ha : DE X E a fa) (hb : DE X E b fb) : DT X E (.Compare a [.LtE] [b] pos) (fOp2 gLe fa fb) := dt_cmp op_le (op2_I0 fun _ _ _ => .bl _) ha hb (nomark _)
theorem t_gt (ha : DE X E a fa) (hb : DE X E b fb) : DT X E (.Compare a [.Gt] [b] pos) (fOp2 gGt fa fb) := dt_cmp op_gt (op2_I0 fun _ _ _ => .bl _) ha hb (nomark _)
theorem t_ge (ha : DE X E a fa) (hb : DE X E b fb) : DT X E (.Compare a [.GtE] [b] pos) (fOp2 gGe fa fb) := dt_cmp op_ge (op2_I0 fun _ _ _ => .bl _) ha hb (nomark _)
theorem t_eq (c : Cn X E k) (ha : DE X E a fa) (hb : DE X E b fb) : DT X E (.Compare a [.Eq] [b] pos) (fOp2 gEq fa fb) := dt_cmp ((op_eqD c.rm.units).or op_eq) op2_eq ha hb (nomark _)
theorem t_ne (c : Cn X E k) (ha : DE X E a fa) (hb : DE X E b fb) : DT X E (.Compare a [.NotEq] [b] pos) (fOp2 gNe fa fb) := dt_cmp ((op_neD c.rm.units).or op_ne) op2_ne ha hb (nomark _)
theorem t_is (ha : DE X E a fa) (hb : DE X E b fb) : DT X E (.Compare a [.Is] [b] pos) (fOp2 gIsN fa fb) := dt_cmp (op_isN.or op_isBlA) op2_is ha hb (nomark _)
theorem t_isnot (ha : DE X E a fa) (hb : DE X E b fb) : DT X E (.Compare a [.IsNot] [b] pos) (fOp2 gNotN fa fb) := dt_cmp (op_notN.or op_notBlA) op2_not ha hb (nomark _)
/-- a <= b <= c -/
theorem t_le2 {c : Expr} {fc : Env → RE} (ha : DE X E a fa) (hb : DE X E b fb) (hc : DE X E c fc) (hm : lastMarks [.LtE, .LtE] [b, c] = false := by with_unfolding_all rfl) : DT X E (.Compare a [.LtE, .LtE] [b, c] pos) (fChain gLe gLe fa fb fc) :=
  dt_chain op_le (op2_I0 fun _ _ _ => .bl _) op_le (op2_I0 fun _ _ _ => .bl _) ha hb hc hm
/-- displays -/
def gMkL : List D → Option W := fun ds => if ds.length ≤ sizeLine then some (.frs ds) else none
def gMkT : List D → Option W := fun ds => if ds.length ≤ sizeLine then some (.pu (.tuple ds)) else none
theorem de_mkL (ha : DA X E es fr) (hz : es.length ≤ 10000 := by decide) : DE X E (.List es pos) (bndA fr gMkL) := de_lst ha hz
theorem de_mkT {x1} (ha : DA X E es fr) : DE X E (.Tuple es x1 pos) (bndA fr gMkT) := de_tup ha
theorem de_globI {x : Str} {i : Int} {t : Tok} (hm : X.mg x = some (.int i t)) (hg : Gl X x := by rfl) (hd : (x == ("__debug__" : Str)) = false := by decide) : DE X E (.Name x pos) (fC (.int i)) := de_glob (v := .int i) hm ⟨t, rfl⟩ (fun _ => .int i) hg hd
/-- {} -/
def fDict0 : Env → RE := fun ρ => .ok (.pu (.dict [])) ρ
theorem de_dict0 : DE X E (.Dict [] [] pos) fDict0 := ⟨PE.weak pe_dnewK fun σ H Q ⟨τ, A0, P, ρ, S, c⟩ => fun p hp => by
  have e : Ext H (upd H p (.dK [])) := Evl.Ex.new hp
  obtain ⟨n1, n2⟩ := S.fresh hp
  refine c (.ref p) _ P (Stp.ext e) (S.grow e.gr) (.emp (hid_in (fun z => ?_) upd_same))
  rcases List.mem_append.mp z with z | z
  · exact n1 z
  · exact n2 z⟩
end
end DL
/-! D14: a grid of ints of our own, its rows too: made, read, written, returned. -/
namespace DL
open PySem L2 PyProof.Rows
def rowOf : D → Option (List Int)
  | .list ds => intsOf ds
  | _ => none
def rowsOf : List D → Option (List (List Int))
  | [] => some []
  | d :: r => match rowOf d, rowsOf r with
    | some i, some l => some (i :: l)
    | _, _ => none
def gridOf : D → Option (List (List Int))
  | .list ds => rowsOf ds
  | _ => none
def rowD (r : List Int) : D := .list (r.map .int)
def gridD (g : List (List Int)) : D := .list (g.map rowD)
theorem intsOf_eq : ∀ {ds : List D} {l : List Int}, intsOf ds = some l → ds = l.map .int
  | [], l, h => by cases h; rfl
  | .int i :: r, l, h => by
    unfold intsOf at h
    cases q : intsOf r with
    | none => rw [q] at h; cases h
    | some m =>
      rw [q] at h
      cases h
      rw [intsOf_eq q]
      rfl
  | .none :: _, _, h => by cases h
  | .bool _ :: _, _, h => by cases h
  | .str _ :: _, _, h => by cases h
  | .list _ :: _, _, h => by cases h
  | .tuple _ :: _, _, h => by cases h
  | .dict _ :: _, _, h => by cases h
theorem intsOf_map : ∀ l : List Int, intsOf (l.map .int) = some l
  | [] => rfl
  | i :: l => by
    show (intsOf (l.map .int)).map (i :: ·) = _
    rw [intsOf_map l]
    rfl
theorem rowsOf_eq : ∀ {ds : List D} {g : List (List Int)}, rowsOf ds = some g → ds = g.map rowD
  | [], l, h => by cases h; rfl
  | d :: r, l, h => by
    unfold rowsOf at h
    split at h
    · rename_i i l' h1 h2
      cases h
      rw [rowsOf_eq h2]
      cases d with
      | list ds =>
        have h1 : intsOf ds = some i := h1
        rw [intsOf_eq h1]
        rfl
      | _ => cases h1
    · cases h
theorem rowsOf_map : ∀ g : List (List Int), rowsOf (g.map rowD) = some g
  | [] => rfl
  | r :: g => by
    show (match rowOf (rowD r), rowsOf (g.map rowD) with | some i, some l => some (i :: l) | _, _ => none) = _
    rw [rowsOf_map g]
    show (match intsOf (r.map .int), some g with | some i, some l => some (i :: l) | _, _ => none) = _
    rw [intsOf_map r]
theorem gridOf_eq {d : D} {g : List (List Int)} (h : gridOf d = some g) : d = gridD g := by
  cases d with
  | list ds => exact congrArg PyData.list (rowsOf_eq h)
  | _ => cases h
theorem gridOf_grid (g : List (List Int)) : gridOf (gridD g) = some g := rowsOf_map g
theorem ints_rps {K : PySem.W.Frag} {H : Hp} : ∀ l : List Int, Rps K H (l.map V.int) (l.map .int)
  | [] => .nil
  | i :: l => .cons (.int i) (ints_rps l)
/-- no own list, no own grid -/
def bare (ρ : Env) : Bool := ρ.all fun o => match o with
  | some (.nst _) => false
  | some (.own _ _) => false
  | _ => true
theorem bare_own {ρ : Env} (h : bare ρ = true) {i t : Nat} {ds : List D} (q : ρ[i]? = some (some (.own t ds))) : False := by
  have z := List.all_eq_true.mp h _ (List.mem_of_getElem? q)
  cases z
theorem bare_nst {ρ : Env} (h : bare ρ = true) {i : Nat} {g : List (List Int)} (q : ρ[i]? = some (some (.nst g))) : False := by
  have z := List.all_eq_true.mp h _ (List.mem_of_getElem? q)
  cases z
section
variable {K : PySem.W.Frag} {E : XK} {τ : Nat → Addr} {A0 P : List Addr} {H H' : Hp} {σ : L2.St} {ρ : Env}
/-- a new grid of our own gets a slot -/
theorem SRep.putN (S : SRep K τ A0 H σ ρ P) (hb : bare ρ = true) (e : Ext H H') {p : Addr} {qs : List Addr} {g : List (List Int)} (N : Nst H' p qs g) (hn : ∀ a ∈ p :: qs, H a = none) (i : Nat) : SRep K τ A0 H' (σ.set i (some (.ref p))) (ρ.set i (some (.nst g))) (p :: qs ++ P) := by
  have old : ∀ {m : Nat} {s : Sl}, s ≠ .nst g → (ρ.set i (some (.nst g)))[m]? = some (some s) → i ≠ m ∧ ρ[m]? = some (some s) := fun {m s} hs z => by
    by_cases hm : i = m
    · subst hm
      by_cases hi : i < ρ.length
      · rw [List.getElem?_set_self hi] at z
        exact absurd (Option.some.inj (Option.some.inj z)).symm hs
      · rw [List.getElem?_eq_none (by simpa using hi)] at z; cases z
    · rw [List.getElem?_set_ne hm] at z
      exact ⟨hm, z⟩
  have atN : ∀ {m : Nat} {h : List (List Int)}, (ρ.set i (some (.nst g)))[m]? = some (some (.nst h)) → m = i ∧ h = g ∧ i < ρ.length := fun {m h} z => by
    by_cases hm : i = m
    · subst hm
      by_cases hi : i < ρ.length
      · rw [List.getElem?_set_self hi] at z
        cases z
        exact ⟨rfl, rfl, hi⟩
      · rw [List.getElem?_eq_none (by simpa using hi)] at z; cases z
    · rw [List.getElem?_set_ne hm] at z
      exact (bare_nst hb z).elim
  have ex : Ext (hid (P ++ A0) H) (hid ((p :: qs ++ P) ++ A0) H') := fun a o z => by
    obtain ⟨n, z1⟩ := hid_of z
    rw [List.mem_append, not_or] at n
    refine hid_in (fun w => ?_) (e a o z1) (hid_nt z)
    rcases List.mem_append.mp w with w | w
    · rcases List.mem_append.mp w with w | w
      · rw [hn a w] at z1; cases z1
      · exact n.1 w
    · exact n.2 w
  refine ⟨fun j m d q => ?_, fun j t ds q => (bare_own hb (old (fun z => by cases z) q).2).elim, fun j k t u es fs b hjk e1 _ _ => (bare_own hb (old (fun z => by cases z) e1).2).elim, fun a z => ?_, by simpa using S.len, fun a z w => ?_, fun b hb => (S.tb b hb).ext e, fun j h q => ?_⟩
  · obtain ⟨hj, q1⟩ := old (fun z => by cases z) q
    obtain ⟨v, h1, h2, h3⟩ := S.pu j m d q1
    exact ⟨v, by rw [List.getElem?_set_ne hj]; exact h1, h2.ext ex.hs, h3⟩
  · rcases List.mem_append.mp z with z | z
    · rcases List.mem_append.mp z with z | z
      · rcases List.mem_cons.mp z with z | z
        · rw [z, N.top]; exact fun w => nomatch w
        · obtain ⟨j, hj⟩ := List.mem_iff_getElem?.mp z
          have hlt : j < g.length := by rw [← N.len]; exact (List.getElem?_eq_some_iff.mp hj).1
          rw [N.row j a _ hj (List.getElem?_eq_getElem hlt)]
          exact fun w => by cases w
      · exact fun w => S.tr a (List.mem_append_left _ z) (e.back w)
    · exact fun w => S.tr a (List.mem_append_right _ z) (e.back w)
  · rcases List.mem_append.mp z with z | z
    · exact S.tr a (List.mem_append_right _ w) (hn a z)
    · exact S.dj a z w
  · obtain ⟨rfl, rfl, hi⟩ := atN q
    exact ⟨⟨p, qs, List.getElem?_set_self (by rw [S.len]; exact hi), N, fun a z => List.mem_append_left _ z⟩, fun k h2 z => (atN z).1, fun k t ds z => (bare_own hb (old (fun w => by cases w) z).2).elim⟩
end
/-- name = [list(x) for x in e], e a grid of ints -/
def sCopy (i k : Nat) (fa : Env → RE) : Env → RS := fun ρ => match fa ρ with
  | .ok w ρ1 => (match gridOf w.d with
    | some g => if bare ρ1 = true ∧ k < ρ1.length ∧ g.length ≤ sizeLine then .nx (ρ1.set i (some (.nst g))) else .st
    | none => .st)
  | .err c d => .err c d
  | .st => .st
section
variable {K : PySem.W.Frag} {E : XK} {σ : L2.St} {H : Hp} {Dn : Ends}
abbrev rLO (K : PySem.W.Frag) : List V → Hp → VK → Prop := fun xs H Q => ∃ p ys, xs = [.ref p] ∧ (SqL K H p ys ∨ SqT K H p ys) ∧ ∀ l, H l = none → Q (.ref l) (upd H l (.lst ys))
theorem copy_of {i k : Nat} {fa : Env → RE} (h : tDS K E (sCopy i k fa) Dn σ H) :
    tAsg (tLc (tDI K E (srcE fa itemsL)) (gName k) tYes (tCB (rLO K) (tCons (tVar k) tNil)) [k]) (gName i) Dn σ H := by
  obtain ⟨τ, A0, P, ρ, S, c⟩ := h
  refine ⟨τ, A0, P, ρ, S, ?_⟩
  unfold sCopy at c
  unfold srcE
  cases q : fa ρ with
  | err cc d => rw [q] at c; exact c
  | st => rw [q] at c; exact c.elim
  | ok w ρ1 =>
    rw [q] at c
    dsimp only at c ⊢
    cases q2 : gridOf w.d with
    | none => rw [q2] at c; exact c.elim
    | some g =>
      rw [q2] at c
      dsimp only at c
      by_cases cd : bare ρ1 = true ∧ k < ρ1.length ∧ g.length ≤ sizeLine
      rotate_left
      · rw [if_neg cd] at c
        exact c.elim
      rw [if_pos cd] at c
      obtain ⟨hb, hk, hz⟩ := cd
      rw [gridOf_eq q2]
      show CDI K E τ A0 H P σ (.ok (g.map rowD) ρ1) _
      intro J H1 P1 t1 S1 wk Dl hD
      have inv0 : ∀ {H' : Hp}, Ext H1 H' → Stp K H1 P1 H' P1 := fun e => Stp.ext e
      refine ⟨fun i m H' => m = g.length - i ∧ i ≤ g.length ∧ ∃ qs : List Addr, Ext H1 H' ∧ Nst H' Dl qs (g.take i) ∧ ∀ a ∈ Dl :: qs, H1 a = none, ⟨_, rfl, Nat.zero_le _, [], Evl.Ex.new hD, ⟨upd_same, by simp, by simp, fun j q r e => by simp at e⟩, fun a z => by rw [List.mem_singleton.mp z]; exact hD⟩, ?_⟩
      rintro j m H' ⟨rfl, hj, qs, ex, N, hn⟩
      obtain ⟨w1, w2⟩ := wk A0 j H' P1 (fun a z => .inl z) (Stp.ext ex)
      cases q3 : g[j]? with
      | none =>
        have hle : g.length ≤ j := List.getElem?_eq_none_iff.mp q3
        refine .inl ⟨w2 (by simpa using hle), ?_⟩
        have ej : g.take j = g := List.take_of_length_le hle
        rw [ej] at N
        refine c _ H' (Dl :: qs ++ P1) ⟨fun a o n z nt => ex a o (t1.kp a o n z nt), fun a z => ?_, fun a z => t1.al a (ex.back z), fun z => (t1.tb z).ext ex⟩ (S1.putN hb ex N hn i)
        rcases List.mem_append.mp z with z | z
        · exact .inr (t1.al a (hn a z))
        · exact t1.nw a z
      | some row =>
        have hlt : j < g.length := (List.getElem?_eq_some_iff.mp q3).1
        obtain ⟨go, yl⟩ := w1 (rowD row) (by rw [List.getElem?_map, q3]; rfl)
        refine .inr ⟨go, fun H4 => ∃ qs : List Addr, Ext H1 H4 ∧ Nst H4 Dl qs (g.take (j + 1)) ∧ ∀ a ∈ Dl :: qs, H1 a = none, fun H4 ⟨qs4, k1, k2, k3⟩ => ⟨g.length - (j + 1), by omega, rfl, hlt, qs4, k1, k2, k3⟩, fun x H4 y => ?_⟩
        obtain ⟨e4, rx⟩ := yl x H4 y
        have tr' : ∀ a ∈ P1 ++ A0, H' a ≠ none := fun a z w => S1.tr a z (ex.back w)
        obtain ⟨b, xs, rfl, hx, rr⟩ := rp_lst (rx tr')
        have exs := rps_ints rr (intsOf_map row)
        subst exs
        have N4 : Nst H4 Dl qs (g.take j) := N.gr fun a xs _ z => e4 a _ z
        have ex4 : Ext H1 H4 := ex.trans e4
        have hkσ : k < (wipe σ [k]).length := by rw [wipe_length, S1.len]; exact hk
        have wkk : wipe ((wipe σ [k]).set k (some (.ref b))) [k] = wipe σ [k] := by
          show ((((σ.set k none).set k (some (V.ref b)))).set k none) = σ.set k none
          rw [List.set_set, List.set_set]
        refine ⟨wkk, ?_⟩
        unfold tYes
        dsimp only
        rw [if_pos rfl]
        refine ⟨.ref b, List.getElem?_set_self hkσ, b, row.map V.int, rfl, .inl (.inl (.inl hx)), fun l hl => ?_⟩
        have hne : Dl ≠ l := ne_of_none N4.top hl
        have hnl : H1 l = none := ex4.back hl
        refine ⟨qs.map V.ref, ?_, ?_, qs ++ [l], ?_, ?_, ?_⟩
        · rw [upd_ne hne]; exact N4.top
        · rw [List.length_map, N4.len, List.length_take]; omega
        · exact fun a o z => by
            have z1 := Evl.Ex.new (o := .lst (row.map V.int)) hl a o (ex4 a o z)
            rw [upd_ne (fun w => by rw [w, hD] at z; cases z)]
            exact z1
        · have nin : l ∉ qs := fun z => by
            obtain ⟨m, hm⟩ := List.mem_iff_getElem?.mp z
            have hml : m < (g.take j).length := by rw [← N4.len]; exact (List.getElem?_eq_some_iff.mp hm).1
            have := N4.row m l _ hm (List.getElem?_eq_getElem hml)
            rw [hl] at this
            cases this
          refine ⟨by rw [upd_same, List.map_append]; rfl, ?_, ?_, fun m q r e1 e2 => ?_⟩
          · rw [← List.cons_append, List.nodup_append]
            refine ⟨N4.nd, by simp, fun a ha b hb e => ?_⟩
            rw [List.mem_singleton.mp hb] at e
            rcases List.mem_cons.mp ha with z | z
            · exact hne (by rw [← z, e])
            · exact nin (by rw [← e]; exact z)
          · rw [List.length_append, N4.len, List.length_take, List.length_take, List.length_singleton]
            omega
          · have lq : qs.length = j := by rw [N4.len, List.length_take]; omega
            have qne : q ≠ Dl := fun z => by
              have nd := N4.nd
              rw [List.nodup_cons] at nd
              rw [z] at e1
              rcases List.mem_append.mp (List.mem_of_getElem? e1) with w | w
              · exact nd.1 w
              · exact hne (List.mem_singleton.mp w)
            rw [upd_ne qne]
            by_cases hm : m < j
            · rw [List.getElem?_append_left (by omega)] at e1
              have e3 : (g.take j)[m]? = some r := by
                rw [List.getElem?_take_of_lt hm]
                rw [List.getElem?_take_of_lt (by omega)] at e2
                exact e2
              rw [upd_ne (fun z => nin (by rw [← z]; exact List.mem_of_getElem? e1))]
              exact N4.row m q r e1 e3
            · have hmj : m = j := by
                have := (List.getElem?_eq_some_iff.mp e1).1
                rw [List.length_append, List.length_singleton] at this
                omega
              subst hmj
              rw [List.getElem?_append_right (by omega), lq, Nat.sub_self] at e1
              cases e1
              rw [List.getElem?_take_of_lt (by omega), q3] at e2
              cases e2
              exact upd_same
        · intro a z
          rcases List.mem_cons.mp z with z | z
          · rw [z]; exact hD
          · rcases List.mem_append.mp z with z | z
            · exact hn a (List.mem_cons_of_mem _ z)
            · rw [List.mem_singleton.mp z]; exact hnl
end
end DL
/-! D15: .. its rules. -/
namespace DL
open PySem L2 PyProof.Rows
def getG (g : List (List Int)) (a b : Int) : Option Int := (atI g a).bind fun row => atI row b
def setG (g : List (List Int)) (a b z : Int) : Option (List (List Int)) := (ixN g.length a).bind fun m => (g[m]?).bind fun row => (ixN row.length b).map fun n => g.set m (row.set n z)
theorem nodup_at {α : Type} : ∀ {l : List α} {i j : Nat} {x : α}, l.Nodup → l[i]? = some x → l[j]? = some x → i = j
  | [], _, _, _, _, h, _ => by simp at h
  | a :: l, 0, 0, _, _, _, _ => rfl
  | a :: l, 0, j + 1, x, nd, h1, h2 => by
    rw [List.nodup_cons] at nd
    have e : a = x := by simpa using h1
    exact absurd (List.mem_of_getElem? (by simpa using h2)) (by rw [← e]; exact nd.1)
  | a :: l, i + 1, 0, x, nd, h1, h2 => by
    rw [List.nodup_cons] at nd
    have e : a = x := by simpa using h2
    exact absurd (List.mem_of_getElem? (by simpa using h1)) (by rw [← e]; exact nd.1)
  | a :: l, i + 1, j + 1, x, nd, h1, h2 => by
    rw [List.nodup_cons] at nd
    rw [nodup_at nd.2 (i := i) (j := j) (by simpa using h1) (by simpa using h2)]
section
variable {K : PySem.W.Frag} {E : XK} {τ : Nat → Addr} {A0 P : List Addr} {H : Hp} {σ : L2.St} {ρ : Env}
theorem SRep.intAt (S : SRep K τ A0 H σ ρ P) {j m : Nat} {a : Int} (h : ρ[j]? = some (some (.pub m (.int a)))) : σ[j]? = some (some (.int a)) := by
  obtain ⟨v, h1, h2⟩ := S.puD h
  rw [rp_int h2] at h1
  exact h1
/-- one of our own rows changes -/
theorem SRep.chgN {i k n : Nat} {g : List (List Int)} {row : List Int} {z : Int} {p q : Addr} {qs : List Addr} (S : SRep K τ A0 H σ ρ P) (hi : ρ[i]? = some (some (.nst g))) (hp : σ[i]? = some (some (.ref p))) (N : Nst H p qs g) (hP : ∀ a ∈ p :: qs, a ∈ P) (hq : qs[k]? = some q) (hg : g[k]? = some row) :
    SRep K τ A0 (L2.upd H q (.lst ((row.set n z).map V.int))) σ (ρ.set i (some (.nst (g.set k (row.set n z))))) P ∧ Stp K H P (L2.upd H q (.lst ((row.set n z).map V.int))) P := by
  have hqP : q ∈ P := hP q (List.mem_cons_of_mem _ (List.mem_of_getElem? hq))
  have hlq : H q = some (.lst (row.map V.int)) := N.row k q row hq hg
  have hl : i < ρ.length := (List.getElem?_eq_some_iff.mp hi).1
  have nd := N.nd
  rw [List.nodup_cons] at nd
  have hne : p ≠ q := fun z => nd.1 (by rw [z]; exact List.mem_of_getElem? hq)
  have noOwn := (S.ns i g hi).2.2
  have old : ∀ {m : Nat} {s : Sl}, (∀ h, s ≠ .nst h) → (ρ.set i (some (.nst (g.set k (row.set n z)))))[m]? = some (some s) → i ≠ m ∧ ρ[m]? = some (some s) := fun {m s} hs w => by
    by_cases hm : i = m
    · subst hm
      rw [List.getElem?_set_self hl] at w
      exact absurd (Option.some.inj (Option.some.inj w)).symm (hs _)
    · rw [List.getElem?_set_ne hm] at w
      exact ⟨hm, w⟩
  refine ⟨⟨fun j m d w => ?_, fun j t ds w => absurd (old (fun _ y => by cases y) w).2 (noOwn j t ds), fun j k2 t u es fs b hjk e1 _ _ => absurd (old (fun _ y => by cases y) e1).2 (noOwn j t es), fun a w y => ?_, by simpa using S.len, S.dj, fun b hb => tab_lst hlq (S.tb b hb), fun j h w => ?_⟩, stp_own hqP hlq⟩
  · obtain ⟨_, w1⟩ := old (fun _ y => by cases y) w
    rw [hid_upd_in (hs_mem (List.mem_append_left _ hqP))]
    exact S.pu j m d w1
  · by_cases ha : a = q
    · rw [ha, upd_same] at y; cases y
    · rw [upd_ne ha] at y
      exact S.tr a w y
  · by_cases hj : i = j
    · subst hj
      rw [List.getElem?_set_self hl] at w
      cases w
      refine ⟨⟨p, qs, hp, ⟨by rw [upd_ne hne]; exact N.top, N.nd, by rw [List.length_set]; exact N.len, fun j q2 r e1 e2 => ?_⟩, hP⟩, fun j2 h2 w => ?_, fun j2 t ds w => absurd (old (fun _ y => by cases y) w).2 (noOwn j2 t ds)⟩
      · by_cases hjk : k = j
        · subst hjk
          rw [hq] at e1
          cases e1
          rw [List.getElem?_set_self (List.getElem?_eq_some_iff.mp hg).1] at e2
          cases e2
          exact upd_same
        · rw [List.getElem?_set_ne hjk] at e2
          have nq : q2 ≠ q := fun y => by
            have e1' := e1
            rw [y] at e1'
            exact hjk (nodup_at nd.2 hq e1')
          rw [upd_ne nq]
          exact N.row j q2 r e1 e2
      · by_cases h3 : i = j2
        · exact h3.symm
        · rw [List.getElem?_set_ne h3] at w
          exact (S.ns i g hi).2.1 j2 h2 w
    · rw [List.getElem?_set_ne hj] at w
      exact absurd ((S.ns i g hi).2.1 j h w) (Ne.symm hj)
theorem atI_at {α : Type} {l : List α} {a : Int} {x : α} (h : atI l a = some x) : ∃ m, ixN l.length a = some m ∧ l[m]? = some x := by
  unfold atI at h
  cases q : ixN l.length a with
  | none => rw [q] at h; cases h
  | some m => rw [q] at h; exact ⟨m, rfl, h⟩
theorem atI_of {α : Type} {l : List α} {a : Int} {x : α} {m n : Nat} (hn : l.length = n) (h1 : ixN n a = some m) (h2 : l[m]? = some x) : atI l a = some x := by
  unfold atI
  rw [hn, h1]
  exact h2
theorem qs_at {p : Addr} {qs : List Addr} {g : List (List Int)} (N : Nst H p qs g) {m : Nat} {row : List Int} (h : g[m]? = some row) : ∃ q, qs[m]? = some q := by
  have hlt : m < qs.length := by rw [N.len]; exact (List.getElem?_eq_some_iff.mp h).1
  exact ⟨_, List.getElem?_eq_getElem hlt⟩
theorem setN_step (S : SRep K τ A0 H σ ρ P) {i j1 j2 m1 m2 : Nat} {g g' : List (List Int)} {a b z : Int} (hi : ρ[i]? = some (some (.nst g))) (h1 : ρ[j1]? = some (some (.pub m1 (.int a)))) (h2 : ρ[j2]? = some (some (.pub m2 (.int b)))) (hs : setG g a b z = some g') :
    ∃ H', Stp K H P H' P ∧ SRep K τ A0 H' σ (ρ.set i (some (.nst g'))) P ∧ ∀ Q : L2.St → Hp → Prop, Q σ H' → L2.gSub (tOp (rIx K) (tVar i) (tVar j1)) (tVar j2) rSetL (.int z) σ H Q := by
  obtain ⟨⟨p, qs, hp, N, hP⟩, _⟩ := S.ns i g hi
  unfold setG at hs
  cases q1 : ixN g.length a with
  | none => rw [q1] at hs; cases hs
  | some m =>
    rw [q1] at hs
    cases q2 : g[m]? with
    | none => rw [Option.bind_some, q2] at hs; cases hs
    | some row =>
      rw [Option.bind_some, q2, Option.bind_some] at hs
      cases q3 : ixN row.length b with
      | none => rw [q3] at hs; cases hs
      | some n =>
        rw [q3] at hs
        cases hs
        obtain ⟨q, hq⟩ := qs_at N q2
        obtain ⟨S2, t2⟩ := S.chgN (n := n) (z := z) hi hp N hP hq q2
        refine ⟨_, t2, S2, fun Q k => ?_⟩
        refine ⟨.ref p, hp, .int a, S.intAt h1, .inl ⟨p, qs.map V.ref, a, .ref q, rfl, rfl, .inl (.inl N.top), atI_of (by rw [List.length_map]; exact N.len) q1 (by rw [List.getElem?_map, hq]; rfl), ?_⟩⟩
        refine ⟨.int b, S.intAt h2, q, row.map V.int, b, n, rfl, rfl, N.row m q row hq q2, by rw [List.length_map]; exact q3, ?_⟩
        rw [← List.map_set]
        exact k
end
/-- told[x][y] -/
def fIxN (i j1 j2 : Nat) : Env → RE := fun ρ => match ρ[i]?, ρ[j1]?, ρ[j2]? with
  | some (some (.nst g)), some (some (.pub _ (.int a))), some (some (.pub _ (.int b))) => resW ((getG g a b).map fun z => .pu (.int z)) ρ
  | _, _, _ => .st
def sSetN (i j1 j2 : Nat) (fe : Env → RE) : Env → RS := sE fe fun w ρ => match w.d, ρ[i]?, ρ[j1]?, ρ[j2]? with
  | .int z, some (some (.nst g)), some (some (.pub _ (.int a))), some (some (.pub _ (.int b))) => (match setG g a b z with
    | some g' => .nx (ρ.set i (some (.nst g')))
    | none => .st)
  | _, _, _, _ => .st
def sSetN2 (i j1 j2 j3 j4 : Nat) (fe : Env → RE) : Env → RS := sE fe fun w ρ => match w.d, ρ[i]?, ρ[j1]?, ρ[j2]?, ρ[j3]?, ρ[j4]? with
  | .tuple [.int z, .int y], some (some (.nst g)), some (some (.pub _ (.int a))), some (some (.pub _ (.int b))), some (some (.pub _ (.int c))), some (some (.pub _ (.int d))) => (match setG g a b z with
    | some g' => (match setG g' c d y with
      | some g'' => if i ≠ j3 ∧ i ≠ j4 then .nx ((ρ.set i (some (.nst g'))).set i (some (.nst g''))) else .st
      | none => .st)
    | none => .st)
  | _, _, _, _, _, _ => .st
def sRetN (i : Nat) : Env → RS := fun ρ => match ρ[i]? with
  | some (some (.nst g)) => .ret (.frs (g.map rowD)) (ρ.set i none)
  | _ => .st
section
variable {X : Cx} {E : XK} {i j1 j2 j3 j4 k : Nat} {e n0 n1 n2 : Expr} {fe : Env → RE} {pos p1 p2 : Pos}
theorem de_ixN (h0 : PE X n0 (tVar i)) (h1 : PE X n1 (tVar j1)) (h2 : PE X n2 (tVar j2)) (hs1 : PlainIx n1 := by exact fun _ _ => rfl) (hs2 : PlainIx n2 := by exact fun _ _ => rfl) : DE X E (.Subscript (.Subscript n0 n1 p1) n2 p2) (fIxN i j1 j2) := by
  refine ⟨PE.weak (pe_ix ix_seq (pe_ix ix_seq h0 h1 hs1) h2 hs2) fun σ H Q ⟨τ, A0, P, ρ, S, c⟩ => ?_⟩
  unfold fIxN at c
  split at c
  · rename_i g m1 a m2 b q0 q1 q2
    obtain ⟨⟨p, qs, hp, N, hP⟩, _⟩ := S.ns i g q0
    unfold getG at c
    cases r1 : atI g a with
    | none => rw [r1] at c; exact c.elim
    | some row =>
      rw [r1, Option.bind_some] at c
      cases r2 : atI row b with
      | none => rw [r2] at c; exact c.elim
      | some z =>
        rw [r2] at c
        obtain ⟨m, e1, e2⟩ := atI_at r1
        obtain ⟨n, e3, e4⟩ := atI_at r2
        obtain ⟨q, hq⟩ := qs_at N e2
        refine ⟨.ref p, hp, .int a, S.intAt q1, .inl ⟨p, qs.map V.ref, a, .ref q, rfl, rfl, .inl (.inl N.top), atI_of (by rw [List.length_map]; exact N.len) e1 (by rw [List.getElem?_map, hq]; rfl), ?_⟩⟩
        refine ⟨.int b, S.intAt q2, .inl ⟨q, row.map V.int, b, .int z, rfl, rfl, .inl (.inl (N.row m q row hq e2)), atI_of (by rw [List.length_map]) e3 (by rw [List.getElem?_map, e4]; rfl), ?_⟩⟩
        exact c (.int z) H P (Stp.rfl H P) S (.int z)
  · exact c.elim
theorem ds_setN (h0 : PE X n0 (tVar i)) (h1 : PE X n1 (tVar j1)) (h2 : PE X n2 (tVar j2)) (he : DE X E e fe) (hs1 : PlainIx n1 := by exact fun _ _ => rfl)
    (ha : ∀ v, assign (.Subscript (.Subscript n0 n1 p1) n2 p2) X.env v = (do
      let ov ← holding [v] (eval (.Subscript n0 n1 p1) X.env)
      let iv ← holding [v, ov] (eval n2 X.env)
      standAt p2
      holding [v, ov, iv] (setItem ov iv v)
      release [v, ov, iv] []) := by intro _; rfl)
    (hs : swapsWithSole [.Subscript (.Subscript n0 n1 p1) n2 p2] e pos.line X.env = pure false := by rfl) (hw : swappedStores [.Subscript (.Subscript n0 n1 p1) n2 p2] e X.env = pure none := by rfl) (hh : (assignEach [.Subscript (.Subscript n0 n1 p1) n2 p2] X.env).map (·.2) = [assign (.Subscript (.Subscript n0 n1 p1) n2 p2) X.env] := by rfl) :
    DS X E (.Assign [.Subscript (.Subscript n0 n1 p1) n2 p2] e pos) (sSetN i j1 j2 fe) := by
  refine ⟨PS.weak (ps_asg he.pe (pg_sub (pe_ix ix_seq h0 h1 hs1) h2 set_list ha) hs hw hh) fun Dn σ H ⟨τ, A0, P, ρ, S, c⟩ => ⟨τ, A0, P, ρ, S, CDE.toD ?_⟩⟩
  unfold sSetN sE at c
  cases q : fe ρ with
  | err cc d => rw [q] at c; exact c
  | st => rw [q] at c; exact c
  | ok w ρ1 =>
    rw [q] at c
    dsimp only at c
    intro v H1 P1 t1 S1 r1
    split at c
    · rename_i z g m1 a m2 b qw q0 q1 q2
      rw [qw] at r1
      rw [rp_int r1]
      cases q3 : setG g a b z with
      | none => rw [q3] at c; exact c.elim
      | some g' =>
        rw [q3] at c
        obtain ⟨H2, t2, S2, kk⟩ := setN_step S1 q0 q1 q2 q3
        exact kk _ (c σ H2 P1 (t1.trans t2) S2)
    · exact c.elim
theorem ds_setN2 {m0 m1 m2 : Expr} {p3 p4 pt : Pos} {kt : Nat} (hc : X.calm = true) (h0 : PE X n0 (tVar i)) (h1 : PE X n1 (tVar j1)) (h2 : PE X n2 (tVar j2)) (h3 : PE X m0 (tVar i)) (h4 : PE X m1 (tVar j3)) (h5 : PE X m2 (tVar j4)) (he : DE X E e fe) (hs1 : PlainIx n1 := by exact fun _ _ => rfl) (hs2 : PlainIx m1 := by exact fun _ _ => rfl)
    (ha : ∀ v, assign (.Subscript (.Subscript n0 n1 p1) n2 p2) X.env v = (do
      let ov ← holding [v] (eval (.Subscript n0 n1 p1) X.env)
      let iv ← holding [v, ov] (eval n2 X.env)
      standAt p2
      holding [v, ov, iv] (setItem ov iv v)
      release [v, ov, iv] []) := by intro _; rfl)
    (ha2 : ∀ v, assign (.Subscript (.Subscript m0 m1 p3) m2 p4) X.env v = (do
      let ov ← holding [v] (eval (.Subscript m0 m1 p3) X.env)
      let iv ← holding [v, ov] (eval m2 X.env)
      standAt p4
      holding [v, ov, iv] (setItem ov iv v)
      release [v, ov, iv] []) := by intro _; rfl)
    (hs : swapsWithSole [.Tuple [.Subscript (.Subscript n0 n1 p1) n2 p2, .Subscript (.Subscript m0 m1 p3) m2 p4] kt pt] e pos.line X.env = pure false := by rfl) (hw : swappedStores [.Tuple [.Subscript (.Subscript n0 n1 p1) n2 p2, .Subscript (.Subscript m0 m1 p3) m2 p4] kt pt] e X.env = pure none := by rfl)
    (hh : (assignEach [.Tuple [.Subscript (.Subscript n0 n1 p1) n2 p2, .Subscript (.Subscript m0 m1 p3) m2 p4] kt pt] X.env).map (·.2) = [assign (.Tuple [.Subscript (.Subscript n0 n1 p1) n2 p2, .Subscript (.Subscript m0 m1 p3) m2 p4] kt pt) X.env] := by rfl) :
    DS X E (.Assign [.Tuple [.Subscript (.Subscript n0 n1 p1) n2 p2, .Subscript (.Subscript m0 m1 p3) m2 p4] kt pt] e pos) (sSetN2 i j1 j2 j3 j4 fe) := by
  refine ⟨PS.weak (ps_asg he.pe (pg_tup (n := 2) hc (pgs_cons (pg_sub (pe_ix ix_seq h0 h1 hs1) h2 set_list ha) (pgs_cons (pg_sub (pe_ix ix_seq h3 h4 hs2) h5 set_list ha2) pgs_nil))) hs hw hh) fun Dn σ H ⟨τ, A0, P, ρ, S, c⟩ => ⟨τ, A0, P, ρ, S, CDE.toD ?_⟩⟩
  unfold sSetN2 sE at c
  cases q : fe ρ with
  | err cc d => rw [q] at c; exact c
  | st => rw [q] at c; exact c
  | ok w ρ1 =>
    rw [q] at c
    dsimp only at c
    intro v H1 P1 t1 S1 r1
    split at c
    · rename_i z y g m1 a m2 b m3 cc m4 d qw q0 q1 q2 q3 q4
      rw [qw] at r1
      obtain ⟨t, xs, rfl, ht, rt⟩ := rp_tup r1
      obtain ⟨v1, v2, rfl, rv1, rv2⟩ := rps_two rt
      rw [rp_int rv1, rp_int rv2] at ht
      cases q5 : setG g a b z with
      | none => rw [q5] at c; exact c.elim
      | some g' =>
        rw [q5] at c
        dsimp only at c
        cases q6 : setG g' cc d y with
        | none => rw [q6] at c; exact c.elim
        | some g'' =>
          rw [q6] at c
          dsimp only at c
          by_cases hij : i ≠ j3 ∧ i ≠ j4
          rotate_left
          · rw [if_neg hij] at c
            exact c.elim
          rw [if_pos hij] at c
          obtain ⟨H2, t2, S2, kk⟩ := setN_step S1 q0 q1 q2 q5
          have hl : i < ρ1.length := (List.getElem?_eq_some_iff.mp q0).1
          obtain ⟨H3, t3, S3, kk3⟩ := setN_step S2 (List.getElem?_set_self hl) (by rw [List.getElem?_set_ne hij.1]; exact q3) (by rw [List.getElem?_set_ne hij.2]; exact q4) q6
          refine ⟨t, [.int z, .int y], rfl, .inl (.inl ht), rfl, .int z, _, rfl, kk _ ⟨.int y, _, rfl, kk3 _ ⟨rfl, c σ H3 P1 (t1.trans (t2.trans t3)) S3⟩⟩⟩
    · exact c.elim
theorem ds_retN2 (h : PE X e (tVar i)) : DS X E (.Return (some e) pos) (sRetN i) := by
  refine ⟨PS.weak (ps_ret h) fun Dn σ H ⟨τ, A0, P, ρ, S, c⟩ => ?_⟩
  unfold sRetN at c
  split at c
  · rename_i g q
    obtain ⟨⟨p, qs, hp, N, hP⟩, u2, u3⟩ := S.ns i g q
    refine ⟨.ref p, hp, ?_⟩
    have hl : i < ρ.length := (List.getElem?_eq_some_iff.mp q).1
    have pA : ∀ a ∈ p :: qs, a ∉ A0 := fun a z => S.dj a (hP a z)
    have nd := N.nd
    rw [List.nodup_cons] at nd
    have old : ∀ {m : Nat} {s : Sl}, (ρ.set i none)[m]? = some (some s) → i ≠ m ∧ ρ[m]? = some (some s) := fun {m s} w => by
      by_cases hm : i = m
      · subst hm
        rw [List.getElem?_set_self hl] at w
        cases w
      · rw [List.getElem?_set_ne hm] at w
        exact ⟨hm, w⟩
    have mem : ∀ a, a ∈ P.filter (fun a => decide (a ∉ p :: qs)) → a ∈ P ∧ a ∉ p :: qs := fun a z => ⟨(List.mem_filter.mp z).1, of_decide_eq_true (List.mem_filter.mp z).2⟩
    have ex : Ext (hid (P ++ A0) H) (hid (P.filter (fun a => decide (a ∉ p :: qs)) ++ p :: A0) H) := hid_less fun a z => by
      rcases List.mem_append.mp z with z | z
      · exact List.mem_append_left _ (mem a z).1
      · rcases List.mem_cons.mp z with z | z
        · rw [z]; exact List.mem_append_left _ (hP p List.mem_cons_self)
        · exact List.mem_append_right _ z
    refine c p (qs.map V.ref) σ H (P.filter (fun a => decide (a ∉ p :: qs))) ⟨fun _ _ _ z _ => z, fun a z => .inl (mem a z).1, fun _ z => z, fun z => z⟩ (.inl (hP p List.mem_cons_self)) (fun z => (mem p z).2 List.mem_cons_self) (pA p List.mem_cons_self) ⟨fun j m d w => ?_, fun j t ds w => absurd (old w).2 (u3 j t ds), fun j k t u es fs b hjk e1 _ _ => absurd (old e1).2 (u3 j t es), fun a z => ?_, by simpa using S.len, fun a z w => ?_, S.tb, fun j h w => absurd (u2 j h (old w).2) (Ne.symm (old w).1)⟩ N.top ?_
    · obtain ⟨_, w1⟩ := old w
      obtain ⟨v, b1, b2, b3⟩ := S.pu j m d w1
      exact ⟨v, b1, b2.ext ex.hs, b3⟩
    · rcases List.mem_append.mp z with z | z
      · exact S.tr a (List.mem_append_left _ (mem a z).1)
      · rcases List.mem_cons.mp z with z | z
        · rw [z, N.top]; exact fun w => by cases w
        · exact S.tr a (List.mem_append_right _ z)
    · rcases List.mem_cons.mp w with w | w
      · exact (mem a z).2 (by rw [w]; exact List.mem_cons_self)
      · exact S.dj a (mem a z).1 w
    · have go : ∀ (qs' : List Addr) (g' : List (List Int)), qs'.length = g'.length → (∀ q ∈ qs', q ∈ qs) → (∀ (j : Nat) (q : Addr) (r : List Int), qs'[j]? = some q → g'[j]? = some r → H q = some (.lst (r.map V.int))) → Rps X.K (hid (P.filter (fun a => decide (a ∉ p :: qs)) ++ p :: A0) H) (qs'.map V.ref) (g'.map rowD) := by
        intro qs'
        induction qs' with
        | nil => intro g' hl _ _; cases g' with
          | nil => exact .nil
          | cons _ _ => cases hl
        | cons a qs' ih =>
          intro g' hl hm hr
          cases g' with
          | nil => cases hl
          | cons r g' =>
            refine .cons (.lst (hid_in (fun z => ?_) (hr 0 a r rfl rfl)) (ints_rps r)) (ih g' (by simpa using hl) (fun q hq => hm q (List.mem_cons_of_mem _ hq)) fun j q2 r2 e1 e2 => hr (j + 1) q2 r2 (by simpa using e1) (by simpa using e2))
            have ha := hm a List.mem_cons_self
            rcases List.mem_append.mp z with z | z
            · exact (mem a z).2 (List.mem_cons_of_mem _ ha)
            · rcases List.mem_cons.mp z with z | z
              · exact nd.1 (by rw [← z]; exact ha)
              · exact pA a (List.mem_cons_of_mem _ ha) z
      exact go qs g N.len (fun _ z => z) N.row
  · exact c.elim
end
section
variable {X : Cx} {E : XK} {i k n : Nat} {y x : Str} {iter : Expr} {scope : Scope} {pos spos py p1 p2 p3 : Pos} {fa : Env → RE}
/-- name = [list(x) for x in e] -/
theorem ds_copy (c : Cn X E n) (B : Bl X.mg) (hN : X.N.Nodup) (hy : X.N[i]? = some y) (hi : DE X E iter fa) (ok : BlkOk X.N X.env.scope scope [(x, k)])
    (hg : ∀ (s : Shared) (H : Hp) (C : Addr) (cl : List (Str × Addr)) (fp : List Addr), PG (X.blk s H scope (compEnvC scope cl C X.env) fp) (.Name x p1) (gName k))
    (he : ∀ (s : Shared) (H : Hp) (C : Addr) (cl : List (Str × Addr)) (fp : List Addr), PE (X.blk s H scope (compEnvC scope cl C X.env) fp) (.Name x p2) (tVar k))
    (hgl : ∀ (s : Shared) (H : Hp) (C : Addr) (cl : List (Str × Addr)) (fp : List Addr), Gl (X.blk s H scope (compEnvC scope cl C X.env) fp) "list")
    (hst : ∀ (s : Shared) (H : Hp) (C : Addr) (cl : List (Str × Addr)) (fp : List Addr), starEach [.Name x p2] (X.blk s H scope (compEnvC scope cl C X.env) fp).env = (false, eval (.Name x p2) (X.blk s H scope (compEnvC scope cl C X.env) fp).env) :: starEach [] (X.blk s H scope (compEnvC scope cl C X.env) fp).env)
    (hyl : X.env.scope.names.lookup y = some .local) (hk : X.env.scope.kind = .function := by rfl) (hl : (py.line == pos.line) = true := by rfl) (ha : (scope.names.any fun (n, k) => n == y && (k == .local || k == .cell)) = false := by decide) (hs : ∀ x, foldedSetIterable iter X.env x = pure x := by intro _; rfl) {pc pf : Pos} :
    DS X E (.Assign [.Name y py] (.ListComp (.Call (.Name "list" pf) [.Name x p2] [] pc) [⟨.Name x p1, iter, [], 0⟩] scope pos) spos) (sCopy i k fa) :=
  ⟨PS.weak (ps_setLc c.cm hN hy hyl (sw_true hk hyl hl ha) (di_list hi).pi ok hg (fun _ _ _ _ _ => pts_nil) (fun s H C cl fp => pe_callTy call_list_of (hgl s H C cl fp) B.list bt_list (pa_cons (he s H C cl fp) pa_nil (hst s H C cl fp)) (by decide) (by decide) (hst s H C cl fp) (by rfl)) hs) fun Dn σ H h => copy_of h⟩
end
end DL
/-! D16: an exception that is held: its class, its value; index and count of truth values. -/
namespace DL
open PySem L2 PyProof.Rows
/-- what the written part says of an own exception class at C -/
structure ExK (K : PySem.W.Frag) (C : Addr) : Prop where
  cl : (PySem.W.clsIn K C).isSome = true
  ga : PySem.W.findIn K (.ref C) "__getattribute__" = some (some (.builtin "BaseException.__getattribute__"))
  gg : PySem.W.findIn K (.ref C) "__getattr__" = some none
  ex : PySem.W.subIn K (.ref C) (.type "BaseException") = some true
  hd : PySem.W.hasDictIn K C = true
  ha : PySem.W.findIn K (.ref C) "__class__" = some (some (.builtin "object.__class__"))
  hn : PySem.W.specialIn K (.builtin "object.__class__") "__get__" = some (some (.builtin "getset_descriptor.__get__"))
  ht : PySem.W.takesIn K (.builtin "object.__class__") = some true
  hm : PySem.W.mroIn K C (.type "object") = some true
  nv : PySem.W.findIn K (.ref C) "value" = some none
def exkB (K : PySem.W.Frag) (C : Addr) : Bool := (PySem.W.clsIn K C).isSome && (decide (PySem.W.findIn K (.ref C) "__getattribute__" = some (some (.builtin "BaseException.__getattribute__"))) && (decide (PySem.W.findIn K (.ref C) "__getattr__" = some none) && (decide (PySem.W.subIn K (.ref C) (.type "BaseException") = some true) && (PySem.W.hasDictIn K C &&
  (decide (PySem.W.findIn K (.ref C) "__class__" = some (some (.builtin "object.__class__"))) && (decide (PySem.W.specialIn K (.builtin "object.__class__") "__get__" = some (some (.builtin "getset_descriptor.__get__"))) && (decide (PySem.W.takesIn K (.builtin "object.__class__") = some true) && (decide (PySem.W.mroIn K C (.type "object") = some true) && decide (PySem.W.findIn K (.ref C) "value" = some none)))))))))
theorem exkB_ok {K : PySem.W.Frag} {C : Addr} (h : exkB K C = true) : ExK K C := by
  unfold exkB at h
  simp only [Bool.and_eq_true, decide_eq_true_eq] at h
  obtain ⟨h1, h2, h3, h4, h5, h6, h7, h8, h9, h10⟩ := h
  exact ⟨h1, h2, h3, h4, h5, h6, h7, h8, h9, h10⟩
section
variable {X : Cx} {pins : List (Addr × Obj)} {σ : L2.St} {H : Hp} {s : Shared}
/-- the instance, by the heap -/
theorem xo_inst (I : Inv X pins σ H s) {a c dx : Addr} {v : V} (h1 : H a = some (XO c dx a)) (h2 : H dx = some (.xd [(("value" : Str), v)])) : ∃ (oe od : Obj) (u : Value), PySem.W.InstAt s.heap a oe c (some od) ∧ PySem.W.lookIn "value" od = some (some u) ∧ RelV v u := by
  obtain ⟨⟨oe, vs, e1, ⟨e2, e3⟩, e4⟩, _, _⟩ := I.hok a _ h1
  obtain ⟨mA, hns, hr⟩ := I.hok dx _ h2
  obtain ⟨od, ho, hl⟩ := lookIn_ns hns
  have l : List.lookup ("value" : Str) [(("value" : Str), v)] = some v := by simp [List.lookup]
  obtain ⟨u, hu, ru⟩ := RelO.some_of (v := v) (o := mA "value") (by rw [← l]; exact hr "value")
  exact ⟨oe, od, u, ⟨e1, e2, by unfold PySem.W.notCls; rw [e4] <;> rfl, by rw [e3]; exact ho⟩, by rw [hl, hu], ru⟩
def rIsX (K : PySem.W.Frag) : List V → Hp → VK → Prop := fun xs H Q => ∃ (a c dx C : Addr) (v : V) (b : Bool), xs = [.ref a, .ref C] ∧ H a = some (XO c dx a) ∧ H dx = some (.xd [(("value" : Str), v)]) ∧ ExK K c ∧ PySem.W.kitOne K (.ref c) (.ref C) = some b ∧ Q (.bl b) H
theorem call_isX : CallR X (.builtin "isinstance") (rIsX X.K) := by
  intro pins s σ H xs us Q I r h
  obtain ⟨a, c, dx, C, v, b, rfl, h1, h2, T, e, q⟩ := h
  obtain ⟨u1, u2, rfl, r1, r2⟩ := vals2 r
  cases r1
  cases r2
  obtain ⟨oe, od, u, J, _, _⟩ := xo_inst I h1 h2
  exact PySem.W.kia_one (PySem.W.kitx_exc T.cl T.ga T.gg T.ex T.ha T.hn T.ht T.hm) I.kIn J e (fun z => nomatch z) fun tk => ⟨.bl b, H, I.tok tk, rfl, q⟩
end
def gIsX (K : PySem.W.Frag) (cs : List Addr) (C : Addr) : D → Option W
  | .dict [(.int (.ofNat c), _)] => if c ∈ cs then (PySem.W.kitOne K (.ref c) (.ref C)).map fun b => .pu (.bool b) else none
  | _ => none
def gVal (cs : List Addr) : D → Option W
  | .dict [(.int (.ofNat c), d)] => if c ∈ cs then some (.pu d) else none
  | _ => none
theorem rp_exc {K : PySem.W.Frag} {H : Hp} {v : V} {c : Nat} {d : D} (h : Rp K H v (.dict [(.int (.ofNat c), d)])) : ∃ a dx u, v = .ref a ∧ H a = some (XO c dx a) ∧ H dx = some (.xd [(("value" : Str), u)]) ∧ Rp K H u d := by
  generalize e : PyData.dict [(.int (.ofNat c), d)] = dd at h
  cases h with
  | exc h1 h2 h3 =>
    injection e with e
    injection e with e _
    injection e with e1 e2
    injection e1 with e1
    injection e1 with e1
    subst e1 e2
    exact ⟨_, _, _, rfl, h1, h2, h3⟩
  | fn =>
    injection e with e
    injection e with e _
    injection e with e1 e2
    cases e1
  | emp h => cases e
  | _ => cases e
section
variable {X : Cx} {E : XK} {e : Expr} {fa : Env → RE} {pos p p2 : Pos} {cs : List Addr} {C : Addr} {n : Str}
/-- isinstance(e, X), X an own exception class -/
theorem de_isX (B : Bl X.mg) (hcs : ∀ c ∈ cs, ExK X.K c) (hm : X.mg n = some (.ref C)) (ha : DE X E e fa) (hg : Gl X "isinstance" := by rfl) (hgn : Gl X n := by rfl) (hdT : (n == ("__debug__" : Str)) = false := by decide)
    (he : starEach [e, .Name n p2] X.env = (false, eval e X.env) :: starEach [.Name n p2] X.env := by rfl) (he2 : starEach [.Name n p2] X.env = (false, eval (.Name n p2) X.env) :: starEach [] X.env := by rfl) (hpl : (backTo pos (starEach [.Name n p2] X.env)).any (·.1) = false := by rfl) :
    DE X E (.Call (.Name "isinstance" p) [e, .Name n p2] [] pos) (fOp1 (gIsX X.K cs C) fa) := by
  refine ⟨PE.weak (pe_callB call_isX hg B.isi (by decide +kernel) (pa_cons ha.pe (pa_cons (pe_glob (v := .ref C) hgn hm rfl hdT) pa_nil he2) he) (by decide) (by decide) he hpl) fun σ H Q h => ?_⟩
  refine tde_bnd h fun v H' τ A0 P' ρ' d S r c => ?_
  unfold gIsX at c
  split at c
  · rename_i c0 d0
    by_cases hc : c0 ∈ cs
    · rw [if_pos hc] at c
      cases q : PySem.W.kitOne X.K (.ref c0) (.ref C) with
      | none => rw [q] at c; exact c.elim
      | some b =>
        rw [q] at c
        obtain ⟨a, dx, u, rfl, h1, h2, _⟩ := rp_exc r
        exact ⟨a, c0, dx, C, u, b, rfl, (hid_of h1).2, (hid_of h2).2, hcs c0 hc, q, give_pu (.bl _) (giveW S c)⟩
    · rw [if_neg hc] at c
      exact c.elim
  · exact c.elim
/-- e.value -/
theorem de_value (hcs : ∀ c ∈ cs, ExK X.K c) (ha : DE X E e fa) (hb : attributeBase e "value" X.env (eval e X.env) = eval e X.env := by rfl) : DE X E (.Attribute e "value" pos) (fOp1 (gVal cs) fa) := by
  have h : PE X (.Attribute e "value" pos) (fun σ H Q => tDE X.K E fa σ H fun x H1 => ∃ (a c dx : Addr) (v : V), x = .ref a ∧ H1 a = some (XO c dx a) ∧ H1 dx = some (.xd [(("value" : Str), v)]) ∧ ExK X.K c ∧ Q v H1) := by
    refine ⟨fun pins s σ H Q I h => ?_⟩
    refine attr_of hb (thn (ha.pe.run pins s σ H _ I h) fun u s1 hh => ?_)
    obtain ⟨x, H1, I1, rx, a, c, dx, v, ex, h1, h2, T, q⟩ := hh
    subst ex
    obtain rfl : u = Value.ref a := rx
    obtain ⟨oe, od, w, J, hl, ru⟩ := xo_inst I1 h1 h2
    exact HandSPX.exc_get I1.kIn J T.ga T.gg T.ex (PySem.W.findObj_own T.hd T.nv rfl hl) (handed_of ru) ⟨v, H1, I1.tok _, ru, q⟩
  refine ⟨PE.weak h fun σ H Q z => ?_⟩
  refine tde_bnd z fun v H' τ A0 P' ρ' d S r c => ?_
  unfold gVal at c
  split at c
  · rename_i c0 d0
    by_cases hc : c0 ∈ cs
    · rw [if_pos hc] at c
      obtain ⟨a, dx, u, rfl, h1, h2, h3⟩ := rp_exc r
      exact ⟨a, c0, dx, u, rfl, (hid_of h1).2, (hid_of h2).2, hcs c0 hc, give_pu h3 (giveW S c)⟩
    · rw [if_neg hc] at c
      exact c.elim
  · exact c.elim
end
/-! ### index and count of True -/
def bolsOf : List D → Option (List Bool)
  | [] => some []
  | .bool b :: r => (bolsOf r).map (b :: ·)
  | _ => none
theorem bolsOf_eq : ∀ {ds : List D} {l : List Bool}, bolsOf ds = some l → ds = l.map .bool
  | [], l, h => by cases h; rfl
  | .bool i :: r, l, h => by
    unfold bolsOf at h
    cases q : bolsOf r with
    | none => rw [q] at h; cases h
    | some m =>
      rw [q] at h
      cases h
      rw [bolsOf_eq q]
      rfl
  | .none :: _, _, h => by cases h
  | .int _ :: _, _, h => by cases h
  | .str _ :: _, _, h => by cases h
  | .list _ :: _, _, h => by cases h
  | .tuple _ :: _, _, h => by cases h
  | .dict _ :: _, _, h => by cases h
theorem rps_bols {K : PySem.W.Frag} {H : Hp} : ∀ {l : List Bool} {xs : List V}, Rps K H xs (l.map .bool) → xs = l.map V.bl
  | [], _, h => by cases h; rfl
  | b :: l, _, h => by
    cases h with
    | cons h1 h2 =>
      rw [rps_bols h2, rp_bool h1]
      rfl
def gIdxT : D → Option W
  | .list ds => (bolsOf ds).bind fun bs => (bs.findIdx? id).map fun j => .pu (.int j)
  | _ => none
def gCntT : D → Option W
  | .list ds => (bolsOf ds).map fun bs => .pu (.int (bs.count true : Nat))
  | _ => none
section
variable {X : Cx} {E : XK} {a b : Expr} {fa fb : Env → RE} {pos apos : Pos} {m : Nat}
def rCntB (K : PySem.W.Frag) : V → List V → Hp → VK → Prop := fun x xs H Q => ∃ (p : Addr) (bs : List Bool), x = .ref p ∧ xs = [.bl true] ∧ H p = some (.lst (bs.map V.bl)) ∧ Q (.int (bs.count true : Nat)) H
theorem mt_cntB (hu : X.A.units + 65 < cLine) : MtR X "list.count" (rCntB X.K) := by
  intro pins s σ H x xs v us Q I rx rxs h
  obtain ⟨p, bs, rfl, rfl, hs, q⟩ := h
  cases rx
  obtain ⟨u, rfl, ru⟩ := Vals.one rxs
  cases ru
  obtain ⟨hlen, its, n, rv, ho⟩ := I.hok p _ hs
  have ei := Vals.bls rv
  subst ei
  have reads : ∀ l : List Bool, ReadsAll s.heap (l.map Value.bool) (l.map PyData.bool) ((l.map fun _ => ([] : List Addr)).flatten) := by
    intro l
    induction l with
    | nil => exact .nil
    | cons b l ih => exact .cons (.bool b) ih
  have pl : PyData.plainAll (bs.map PyData.bool) = true := by
    clear q hs rv ho hlen reads
    induction bs with
    | nil => rfl
    | cons b l ih => simp [PyData.plainAll, PyData.plain, ih]
  refine SeqAt.count_list_data (d := .bool true) (xs := bs.map PyData.bool) (vs := (bs.map Value.bool).toArray) ⟨_, ho, rfl, n, rfl⟩ (by simpa using reads bs) (.bool true) pl (by simp [PyData.plain]) (by simp only [PyData.depth, Nat.min_zero]; omega) ?_
  have e : (bs.map PyData.bool).countP (fun y => PyData.eqv y (.bool true)) = bs.count true := by
    clear q hs rv ho hlen reads pl
    induction bs with
    | nil => rfl
    | cons b l ih =>
      rw [List.map_cons, List.countP_cons, ih, List.count_cons]
      cases b <;> simp [PyData.eqv]
  rw [e]
  exact ⟨.int (bs.count true : Nat), H, I.tok _, ⟨s.toks, rfl⟩, q⟩
end
section
variable {X : Cx} {E : XK} {a b : Expr} {fa fb : Env → RE} {pos apos : Pos} {m : Nat}
theorem tyL {K : PySem.W.Frag} {H : Hp} {p : Addr} {xs : List V} (h : H p = some (.lst xs)) : tyV K "list" (.ref p) H := .inl ⟨rfl, xs, .inl (.inl h)⟩
theorem de_cntT {j : Nat} {p2 : Pos} (c : Cn X E m) (ha : DE X E a fa) (hbase : attributeBase a "count" X.env (eval a X.env) = eval a X.env := by rfl) (hline : (apos.endLine == pos.line) = true := by rfl) :
    DE X E (.Call (.Attribute a "count" apos) [.Constant (.bool true) j p2] [] pos) (fOp1 gCntT fa) := by
  have un := c.rm.un
  refine ⟨PE.weak (pe_bm PySem.F.plainAttrs_list PySem.F.slot_list_count PySem.F.type_list_count (mt_cntB (by omega)) ha.pe (pa_cons pe_bl pa_nil) hbase (by rfl) hline) fun σ H Q h => ?_⟩
  refine tde_bnd h fun v H' τ A0 P' ρ' d S r c => ?_
  unfold gCntT at c
  split at c
  · rename_i ds
    cases q : bolsOf ds with
    | none => rw [q] at c; exact c.elim
    | some bs =>
      rw [q] at c
      obtain ⟨p, xs, rfl, h1, rr⟩ := rp_lst r
      rw [bolsOf_eq q] at rr
      have e := rps_bols rr
      subst e
      exact ⟨tyL h1, p, bs, rfl, rfl, h1, give_pu (.int _) (giveW S c)⟩
  · exact c.elim
theorem de_idxT {j : Nat} {p2 : Pos} (ha : DE X E a fa) (hbase : attributeBase a "index" X.env (eval a X.env) = eval a X.env := by rfl) (hline : (apos.endLine == pos.line) = true := by rfl) :
    DE X E (.Call (.Attribute a "index" apos) [.Constant (.bool true) j p2] [] pos) (fOp1 gIdxT fa) := by
  refine ⟨PE.weak (pe_bm PySem.F.plainAttrs_list PySem.F.slot_list_index PySem.F.type_list_index mt_index ha.pe (pa_cons pe_bl pa_nil) hbase (by rfl) hline) fun σ H Q h => ?_⟩
  refine tde_bnd h fun v H' τ A0 P' ρ' d S r c => ?_
  unfold gIdxT at c
  split at c
  · rename_i ds
    cases q : bolsOf ds with
    | none => rw [q] at c; exact c.elim
    | some bs =>
      rw [q, Option.bind_some] at c
      cases q2 : bs.findIdx? id with
      | none => rw [q2] at c; exact c.elim
      | some n =>
        rw [q2] at c
        obtain ⟨p, xs, rfl, h1, rr⟩ := rp_lst r
        rw [bolsOf_eq q] at rr
        have e := rps_bols rr
        subst e
        obtain ⟨k1, k2, k3⟩ := List.findIdx?_eq_some_iff_getElem.mp q2
        refine ⟨tyL h1, p, bs.map V.bl, .bl true, n, .bl true, rfl, rfl, .inl (.inl h1), rfl, by simp [flatV], ?_, rfl, fun m z' hm hz => ?_, give_pu (.int _) (giveW S c)⟩
        · rw [List.getElem?_map, List.getElem?_eq_getElem k1]
          have e2 : bs[n] = true := k2
          rw [e2]; rfl
        · have hml : m < bs.length := Nat.lt_trans hm k1
          rw [List.getElem?_map, List.getElem?_eq_getElem hml] at hz
          cases hz
          have e3 : bs[m] = false := by simpa using k3 m hm
          rw [e3]
          rfl
  · exact c.elim
end
end DL
/-! D17: try: .. except X as e: held = e; the exception stays at hand behind the suite. -/
namespace DL
open PySem L2 PyProof.Rows
section
variable {X : Cx} {pins : List (Addr × Obj)} {σ : L2.St} {H : Hp} {s : Shared}
/-- an object that nobody tracks gets tracked -/
theorem inv_adopt {a : Addr} {o : HO} (I : Inv X pins σ H s) (ha : H a = none) (n0 : ∀ u, X.s_0.heap.get? a ≠ some u) (nL : X.env.locals ≠ a) (nC : ∀ x c, X.env.cells.lookup x = some c → c ≠ a) (nP : ∀ p ∈ X.pn ++ pins, p.1 ≠ a) (new : ObjOk X.prog X.w (upd H a o) s.heap a o) : Inv X pins σ (upd H a o) s := by
  have ne : ∀ {b : Addr} {u : HO}, H b = some u → b ≠ a := fun {b u} e => ne_of_none e ha
  refine ⟨I.ok, I.os, I.bare, ⟨I.base.keep, I.base.slot, fun b u q n hx => ?_, I.base.there, fun b xs q => ?_, fun b u z q => ?_, fun b ps q => ?_⟩, I.loc, I.cell, ?_, fun x c e => ?_, fun p hp => ?_, I.hok.laidN (fun _ _ z => z) ha new, I.len⟩
  · rw [upd_ne (fun z => n0 u (by rw [← z]; exact q))]
    exact I.base.free b u q n hx
  · have z := I.base.tups b xs q
    rw [upd_ne (ne z)]
    exact z
  · have y := I.base.frzs b u z q
    rw [upd_ne (ne y)]
    exact y
  · obtain ⟨more, z⟩ := I.base.tbls b ps q
    exact ⟨more, by rw [upd_ne (ne z)]; exact z⟩
  · rw [upd_ne nL]
    exact I.free
  · rw [upd_ne (nC x c e)]
    exact I.freeC x c e
  · obtain ⟨p1, p2, p3⟩ := I.pin p hp
    exact ⟨p1, by rw [upd_ne (nP p hp)]; exact p2, p3⟩
end
/-- what such a clause wishes of an exception of the body: slot i is the clause's name, slot j keeps it -/
def wHold (K : PySem.W.Frag) (c : Value) (i j : Nat) (Wout : WX) (D : Ends) : WX := fun cls d σ H => ∃ b, PySem.W.exmOne K cls c = some b ∧
  (b = true → ∃ C dx, cls = .ref C ∧ d = some dx ∧ ∀ a, H a = none → D.nx (((σ.set i (some (.ref a))).set j (some (.ref a))).set i none) (upd H a (XO C dx a))) ∧ (b = false → Wout cls d σ H)
section
variable {X : Cx} {x n cn : Str} {c : Value} {i j : Nat} {body : List Stmt} {np pos pos' q1 q2 q3 : Pos} {tb : WX → TS} {Wout : WX}
theorem ps_hold (hs : X.stack = X.env :: X.outer) (hex : X.ex = []) (hf : X.env.frame = some X.env.locals) (hN : X.N.Nodup) (hi : X.N[i]? = some n) (hln : X.env.kindOf n = some .local) (hj : X.N[j]? = some cn) (hlc : X.env.kindOf cn = some .local) (hil : ∀ σ : L2.St, σ.length = X.N.length → i < σ.length) (hc : Names X x c) (tk : Takes X Wout)
    (hd : (n == ("__debug__" : Str)) = false) (hcd : (n == ("__classdict__" : Str)) = false)
    (hsw : ∀ Y : Cx, Y.env = X.env → swapsWith (.Name n q2) (some (.Name cn q1)) q3.line Y.env = pure false)
    (hb : ∀ (W : WX) (pn : List (Addr × Obj)) (xe : Value → Shared → Prop), Takes (X.tr pn xe) W → PassesOwn (model X.prog X.w) X.A X.env xe → PSs (X.tr pn xe) body (tb W)) :
    PS X (.Try body [.ExceptHandler (some (.Name x np)) (some n) [.Assign [.Name cn q1] (.Name n q2) q3] pos'] [] [] pos) (fun D σ H => tb (wHold X.K c i j Wout D) D σ H) := by
  refine ⟨fun pins s σ H D I h => ?_⟩
  have ok := I.ok
  have hfr : X.A.frames = some (X.env :: X.outer) := by rw [ok.frames, hs]
  let hdl : ExceptHandler := .ExceptHandler (some (.Name x np)) (some n) [.Assign [.Name cn q1] (.Name n q2) q3] pos'
  let look : Value → Shared → Prop := fun e t1 => wpAny (model X.prog X.w) X.A (noteFrame e X.env)
    (fun _ t2 => wpAny (model X.prog X.w) X.A (setFlight e none) (fun _ t3 => wpAny (model X.prog X.w) X.A (handleBy e X.env [hdl]) (SP X pins D) X.xe t3) X.xe t2) X.xe t1
  have taken : Takes (X.tr (X.pn ++ pins) look) (wHold X.K c i j Wout D) := by
    rintro u t ⟨a, B, tI, ps2, σ', H', cls, d, rfl, J0, nb, up, sky, na, os, ag, b, hb1, hyes, hno⟩
    have J : Inv X pins σ' H' tI := J0.ofTry ok
    have sky2 : Sky B (X.env :: X.outer) a (Zc cls d) X.env.locals t.heap := by rw [← hs]; exact sky
    show wpAny (model X.prog X.w) X.A (noteFrame (.ref a) X.env) _ _ _
    refine Sky.land Zc.steady hfr hf sky2 fun h3 fl3 up3 => ?_
    have J3 : Inv X pins σ' H' { t with heap := h3 } := J.landed nb fl3.1 (up.trans up3) os ag
    obtain ⟨oe3, vs3, he3, hz3, hd3⟩ := fl3.there
    have nfr : a ∉ frs (X.env :: X.outer) := fun hm => by
      obtain ⟨_, o', e', hnf⟩ := fl3.2.2.1.mem hm
      rw [he3] at e'
      cases e'
      exact hnf _ hd3
    have nL : a ≠ X.env.locals := fun z => nfr (List.mem_filterMap.mpr ⟨X.env, List.mem_cons_self, by rw [hf, z]⟩)
    have nF : a ∉ X.fs := fun hm => by
      obtain ⟨e, he, q⟩ := List.mem_filterMap.mp hm
      exact nfr (List.mem_filterMap.mpr ⟨e, List.mem_cons_of_mem _ he, q⟩)
    have new : tI.heap.get? a = none := by
      cases q : tI.heap.get? a with
      | none => rfl
      | some o =>
        have z := nb a o q (by rw [hs]; exact nfr)
        rw [fl3.2.1] at z
        cases z
    have S3 := J3.suite he3 hd3 na nL nF
    refine wpAny_handleBy_cons (codeAny_handlers_test ?_) (by intro q; cases q)
    have LT : PySem.W.Looks (model X.prog X.w) h3 (typeOf (.ref a)) cls := fun A Q E s k q => wpAny_typeOf_ref (k _ _ he3) (by rw [hz3.1]; exact q)
    have LM := PySem.W.exm_one (M := model X.prog X.w) (J3.kIn) LT hb1
    have test : ∀ {Q : Value → Shared → Prop} {E : Value → Shared → Prop}, Q c { t with heap := h3 } → wpAny (model X.prog X.w) (X.A.mark (some (.ref a))) (eval (.Name x np) X.env) Q E { t with heap := h3 } := fun {Q E} q => by
      obtain ⟨hg, hdbg, hm | ⟨hm, hv, hnn⟩⟩ := hc
      · exact ld_glob (X := X.suite a ((a, oe3) :: (X.pn ++ pins))) S3 hg hm q hdbg
      · exact ld_blt (X := X.suite a ((a, oe3) :: (X.pn ++ pins))) S3 hg hm hv q hnn hdbg
    refine test (LM.here ?_)
    cases b with
    | true =>
      obtain ⟨C, dx, rfl, rfl, go⟩ := hyes rfl
      refine codeAny_handlers_suite_as ?_
      refine HandSPX.lands_againZ fl3 fun h4 fl4 up4 => ?_
      have J4 : Inv X pins σ' H' { t with heap := h4 } := J.landed nb fl4.1 ((up.trans up3).trans up4) os ag
      obtain ⟨oe4, vs4, he4, hz4, hd4⟩ := fl4.there
      have S4 := J4.suite he4 hd4 na nL nF
      have hloc : L2.Loc X.env.scope n := .inl hln
      refine store_ok (X := X.suite a ((a, oe4) :: (X.pn ++ pins))) (v := .ref a) S4 hN hi hloc rfl (fun s5 S5 => ?_) (.inr hln)
      have suiteP : PSs (X.suite a ((a, oe4) :: (X.pn ++ pins))) [.Assign [.Name cn q1] (.Name n q2) q3] (tAsg (tVar i) (gName j)) :=
        pss_one (ps_set (X := X.suite a ((a, oe4) :: (X.pn ++ pins))) hN hj (.inl hlc) (pe_var hi (.inl hln) hd hcd) (hsw _ rfl) (.inr hlc))
      have lσ : i < σ'.length := hil σ' J.len
      refine wpAny_mono (suiteP.run [] s5 _ H' { nx := fun σ6 H6 => σ6 = (σ'.set i (some (.ref a))).set j (some (.ref a)) ∧ H6 = H', rt := fun _ _ => False } S5 ⟨.ref a, List.getElem?_set_self lσ, rfl, rfl⟩) (fun f s6 hsp => ?_) (fun _ _ z => False.elim z)
      have bad : ∀ {P : Prop}, False → P := fun z => z.elim
      cases f with
      | next =>
        obtain ⟨σ6, H6, S6, rfl, rfl⟩ := hsp
        refine gone_ok (X := X.suite a ((a, oe4) :: (X.pn ++ pins))) S6 hN hi hln fun s7 S7 => ?_
        have at7 := (S7.pin (a, oe4) (List.mem_append_left _ List.mem_cons_self)).1
        have J7 := S7.unsuite ok
        refine ⟨_, _, inv_adopt (o := XO C dx a) J7 na (fun u z => ?_) (Ne.symm nL) (fun y c2 e z => ?_) (fun p hp z => ?_) ⟨⟨oe4, vs4, at7, hz4, hd4⟩, ⟨oe4, at7⟩, fun _ _ ⟨o, v, w, r⟩ k => ⟨o, v, k o w, r⟩⟩, go a na⟩
        · obtain ⟨o', w⟩ := J.base.there a u z (by rw [hex]; exact fun y => nomatch y)
          rw [new] at w
          cases w
        · obtain ⟨v, o, w, _⟩ := J.cell y c2 e
          rw [z, new] at w
          cases w
        · obtain ⟨w, _⟩ := J.pin p hp
          rw [z, new] at w
          cases w
      | brk =>
        obtain ⟨_, _, _, z⟩ := hsp
        exact bad z
      | cont =>
        obtain ⟨_, _, _, z⟩ := hsp
        exact bad z
      | ret u =>
        obtain ⟨_, _, _, _, _, z⟩ := hsp
        exact bad z
    | false =>
      show wpAny _ X.A (handleBy (.ref a) X.env []) _ _ _
      refine wpAny_handleBy_nil ?_
      obtain ⟨k1, k2, k3, oe, vs, T, oT, ts', he, hz, hd', h1, hr⟩ := id fl3
      unfold PySem.passOn
      refine wpAny_bind (wpAny_field he hd' h1 ?_)
      rw [if_neg (show ¬ ((Value.ref T == Value.none) = true) from by simp)]
      have fin : wpAny (model X.prog X.w) X.A (setFlight (.ref a) X.env.frame) (fun _ s4 => wpAny (model X.prog X.w) X.A (throw (.ref a) : Sem Flow) (SP X pins D) X.xe s4) X.xe { t with heap := h3 } := by
        rw [hf]
        refine HandSPX.setFlight_upZ fl3 fun h4 hh4 up4 => wpAny_throw (tk _ _ ?_)
        exact ⟨a, B, tI, pins, σ', H', cls, d, rfl, J, nb, (up.trans up3).trans up4, .inr (.inr (by rw [hs]; exact hh4)), na, os, ag, hno rfl⟩
      first
        | exact wpAny_bind (wpAny_pure (wpAny_bind fin))
        | exact wpAny_bind fin
  refine wpAny_Try_except ?_
  refine wpAny_mono ((hb (wHold X.K c i j Wout D) (X.pn ++ pins) look taken PassesOwn.looking).run [] s σ H D (I.toTry _) h) (fun f s1 hsp => ?_) (fun e s1 he => he)
  cases f with
  | next =>
    obtain ⟨σ', H', J', q⟩ := hsp
    exact wpAny_execs_nil ⟨σ', H', J'.ofTry ok, q⟩
  | brk =>
    obtain ⟨σ', H', J', q⟩ := hsp
    exact ⟨σ', H', J'.ofTry ok, q⟩
  | cont =>
    obtain ⟨σ', H', J', q⟩ := hsp
    exact ⟨σ', H', J'.ofTry ok, q⟩
  | ret u =>
    obtain ⟨v, σ', H', J', r, q⟩ := hsp
    exact ⟨v, σ', H', J'.ofTry ok, r, q⟩
end
end DL
/-! D18: functions handed over, and what a call of them does. -/
namespace DL
open PySem L2 PyProof.Rows
/-- what a call without arguments does: it lets, or raises an exception of the class at c with the value d -/
inductive FO where
  | lets
  | err (c : Addr) (d : D)
def FOut (K : PySem.W.Frag) (E : XK) (A : List Addr) (H : Hp) (o : FO) (Q : VK) : Prop := match o with
  | .lets => ∀ v H', Gr K H H' → Q v H'
  | .err c d => ∀ dx v H', Gr K H H' → (H dx = none ∧ H' dx = some (.xd [(("value" : Str), v)])) → Rp K (hid A H') v d → E (.ref c) (some dx) H'
/-- f stands in the base and does so at every heap that grew out of H; T: what is hidden -/
structure Can (P : Program) (w : World) (K : PySem.W.Frag) (mg : Str → Option Value) (base : Heap) (k : Nat) (H : Hp) (T : List Addr) (f : Addr) (o : FO) : Prop where
  fn : ∃ ob, base.get? f = some ob ∧ ∀ h : Heap, h.get? f = some ob → PySem.W.FnAt f h
  run : ∀ (A : Around) (outer : List PySem.Env) (s2 : Shared) (H2 : Hp) (B : List Addr) (Q : VK) (E : XK), A.guards = some [] → Room k A → Env0 P w K mg base A outer s2 H2 → Gr K H H2 →
    (∀ a ∈ T, a ∈ B) → (∀ a ∈ B, a ∈ T ∨ H a = none) → (∀ a ∈ B, H2 a ≠ none) → LamX.Tabs (TbK K) H2 → FOut K E B H2 o Q → codeAny (model P w) A (.call (.ref f) ⟨[], []⟩) (CR (L2.CX P w) outer P w H2 s2 Q E) s2
theorem Can.later {P : Program} {w : World} {K : PySem.W.Frag} {mg : Str → Option Value} {base : Heap} {k : Nat} {H H' : Hp} {T T' : List Addr} {f : Addr} {o : FO} (C : Can P w K mg base k H T f o) (g : Gr K H H') (h1 : ∀ a ∈ T, a ∈ T') (h2 : ∀ a ∈ T', a ∈ T ∨ H a = none) : Can P w K mg base k H' T' f o :=
  ⟨C.fn, fun A outer s2 H2 B Q E hgd hr e0 g2 b1 b2 tr tb q => C.run A outer s2 H2 B Q E hgd hr e0 (g.trans g2) (fun a z => b1 a (h1 a z)) (fun a z => (b2 a z).elim (h2 a) fun z => .inr (g.al a z)) tr tb q⟩
theorem Can.mono {P : Program} {w : World} {K : PySem.W.Frag} {mg : Str → Option Value} {base : Heap} {j k : Nat} {H : Hp} {T : List Addr} {f : Addr} {o : FO} (C : Can P w K mg base j H T f o) (h : j ≤ k) : Can P w K mg base k H T f o :=
  ⟨C.fn, fun A outer s2 H2 B Q E hgd hr => C.run A outer s2 H2 B Q E hgd (hr.mono h)⟩
section
variable {Y : Cx} {k i : Nat} {H0 : Hp} {T : List Addr} {f : Addr} {o : FO} {pn : List (Addr × Obj)} {xe : Value → Shared → Prop} {W : WX} {a : Str} {p1 p2 : Pos}
/-- x(), x such a function, in a try -/
theorem pe_can (C : Can Y.prog Y.w Y.K Y.mg Y.base k H0 T f o) (hgd : Y.A.guards = some []) (hr : Room k Y.A) (tk : Takes (Y.tr pn xe) W) (hN : Y.N[i]? = some a) (hv : Vis Y.env.scope a) (hd : (a == ("__debug__" : Str)) = false := by decide) (hcd : (a == ("__classdict__" : Str)) = false := by decide) :
    PE (Y.tr pn xe) (.Call (.Name a p1) [] [] p2) (fun σ H Q => σ[i]? = some (some (.ref f)) ∧ Gr Y.K H0 H ∧ (∀ a ∈ T, H a ≠ none) ∧ LamX.Tabs (TbK Y.K) H ∧ FOut Y.K (WE W σ) T H o Q) := by
  refine ⟨fun pins s σ H Q I ⟨hσ, g, tr, tb, q⟩ => ?_⟩
  refine wpAny_Call_Name_kw (thn ((pe_var (X := Y.tr pn xe) (pos := p1) (i := i) hN hv hd hcd).run pins s σ H (fun v H1 => v = .ref f ∧ H1 = H) I ⟨.ref f, hσ, rfl, rfl⟩) fun u s1 ⟨v, H1, I1, r1, e1, e2⟩ => ?_)
  subst e1
  rw [e2] at I1
  obtain rfl : u = Value.ref f := r1
  obtain ⟨ob, c1, c2⟩ := C.fn
  refine PySem.W.callWith_F0 (c2 _ (I1.bk f ob c1)) ?_
  have rc := C.run Y.A Y.stack s1 H T Q (WE W σ) hgd hr I1.env0 g (fun _ z => z) (fun a z => .inl z) tr tb q
  refine wpAny_call (codeAny_mono rc fun r s' hq => ?_)
  cases r with
  | error e => exact passAt tk σ pins H s1 e s' I1 hq
  | ok fl =>
    cases fl with
    | ret u => exact I1.after hq
    | next => exact False.elim hq
    | brk => exact False.elim hq
    | cont => exact False.elim hq
end
/-! ### the ground: all that nobody tracks, but the frames -/
def ground (s : Shared) (H : Hp) (fr : List Addr) : Heap := PySem.W.hideAll s.heap ((List.range s.heap.objs.size).filter fun a => (H a).isSome || decide (a ∈ fr))
theorem ground_get {s : Shared} {H : Hp} {fr : List Addr} {b : Addr} {o : Obj} (e : s.heap.get? b = some o) (n : H b = none) (hf : b ∉ fr) : (ground s H fr).get? b = some o :=
  PySem.W.hideAll_get _ e fun hm => by
    have q := (List.mem_filter.mp hm).2
    simp [n, hf] at q
theorem of_ground {s : Shared} {H : Hp} {fr : List Addr} {b : Addr} {o : Obj} (e : (ground s H fr).get? b = some o) : s.heap.get? b = some o ∧ H b = none ∧ b ∉ fr := by
  have e1 : s.heap.get? b = some o := PySem.W.of_hideAll _ e
  have nm : b ∉ (List.range s.heap.objs.size).filter fun a => (H a).isSome || decide (a ∈ fr) := fun hm => by
    unfold ground at e
    rw [PySem.W.hideAll_none _ hm] at e
    cases e
  rw [List.mem_filter, not_and] at nm
  have z := nm (List.mem_range.mpr (Heap.lt_size e1))
  simp only [Bool.or_eq_true, decide_eq_true_eq, not_or, Option.isSome_iff_ne_none, ne_eq, Decidable.not_not] at z
  exact ⟨e1, z.1, z.2⟩
section
variable {X : Cx} {pins : List (Addr × Obj)} {σ : L2.St} {H : Hp} {s : Shared}
theorem base_ground (I : Inv X pins σ H s) {b : Addr} {o : Obj} (e : X.base.get? b = some o) : (ground s H (frs X.stack)).get? b = some o := by
  obtain ⟨h1, h2⟩ := I.bs b o e
  refine ground_get h1 h2 fun hm => ?_
  have := (I.stack.mem hm).1
  rw [e] at this
  cases this
theorem frames_mono {h B G : Heap} : ∀ {l : List PySem.Env}, h.FunFrames B l → (∀ L ∈ frs l, G.get? L = none) → h.FunFrames G l
  | [], _, _ => trivial
  | env :: l, h, hn => by
    obtain ⟨hk, ⟨L, o, hf, _, ho, hd⟩, hr⟩ := h
    exact ⟨hk, ⟨L, o, hf, hn L (List.mem_filterMap.mpr ⟨env, List.mem_cons_self, hf⟩), ho, hd⟩, frames_mono hr fun b hb => by
      obtain ⟨e, he, q⟩ := List.mem_filterMap.mp hb
      exact hn b (List.mem_filterMap.mpr ⟨e, List.mem_cons_of_mem _ he, q⟩)⟩
theorem mod_ground (I : Inv X pins σ H s) : Mod X.K X.mg (ground s H (frs X.stack)) := by
  have k : ∀ b o, X.base.get? b = some o → (ground s H (frs X.stack)).get? b = some o := fun b o e => base_ground I e
  obtain ⟨mb, h1, h2⟩ := I.mod.blt
  exact ⟨I.mod.kin.keeps k, I.mod.glob.keeps k, ⟨mb, h1.keeps k, h2⟩, I.mod.nolimit.keeps k⟩
/-- a call from here, over the ground -/
theorem env0_ground (I : Inv X pins σ H s) : Env0 X.prog X.w X.K X.mg (ground s H (frs X.stack)) X.A X.stack s H := by
  have e0 := I.env0
  refine ⟨e0.frames, mod_ground I, fun b o e => ⟨(of_ground e).1, (of_ground e).2.1⟩, Nat.le_of_eq (PySem.W.hideAll_size _ _), frames_mono e0.funs fun L hL => ?_, e0.frf, e0.hok, e0.bare⟩
  cases q : (ground s H (frs X.stack)).get? L with
  | none => rfl
  | some o => exact absurd hL (of_ground q).2.2
/-- .. and back to a smaller base -/
theorem env0_less {P : Program} {w : World} {K : PySem.W.Frag} {mg : Str → Option Value} {base base2 : Heap} {A : Around} {outer : List PySem.Env} {s : Shared} {H : Hp} (e0 : Env0 P w K mg base2 A outer s H) (M : Mod K mg base) (k : ∀ b o, base.get? b = some o → base2.get? b = some o) (hz : base.objs.size ≤ base2.objs.size) : Env0 P w K mg base A outer s H := by
  refine ⟨e0.frames, M, fun b o e => e0.bs b o (k b o e), Nat.le_trans hz e0.bsz, frames_mono e0.funs fun L hL => ?_, e0.frf, e0.hok, e0.bare⟩
  cases q : base.get? L with
  | none => rfl
  | some o =>
    have z := (e0.funs.mem hL).1
    rw [k L o q] at z
    cases z
end
end DL
/-! D19: lambdas made, and what they do later on. -/
namespace DL
open PySem L2 PyProof.Rows
/-- the slots that bear shared data -/
def pubE (ρ : Env) : Env := ρ.map fun o => match o with
  | some (.pub m d) => some (.pub m d)
  | _ => none
theorem pubE_at {ρ : Env} {i : Nat} {s : Sl} (h : (pubE ρ)[i]? = some (some s)) : ∃ m d, s = .pub m d ∧ ρ[i]? = some (some (.pub m d)) := by
  unfold pubE at h
  rw [List.getElem?_map] at h
  cases q : ρ[i]? with
  | none => rw [q] at h; cases h
  | some o =>
    rw [q] at h
    have h := Option.some.inj h
    dsimp only at h
    split at h
    · exact ⟨_, _, (Option.some.inj h).symm, rfl⟩
    · cases h
section
variable {K : PySem.W.Frag} {τ : Nat → Addr} {A0 P B : List Addr} {H H2 : Hp} {σ : L2.St} {ρ : Env}
/-- later on, with nothing of our own but more hidden -/
theorem SRep.pubs (S : SRep K τ A0 H σ ρ P) (g : Gr K H H2) (h1 : ∀ a ∈ B, a ∈ P ++ A0 ∨ H a = none) (tr : ∀ a ∈ B, H2 a ≠ none) (tb : LamX.Tabs (TbK K) H2) : SRep K τ B H2 σ (pubE ρ) [] := by
  have ex : Ext (hid (P ++ A0) H) (hid ([] ++ B) H2) := fun a o q => by
    obtain ⟨n, e⟩ := hid_of q
    refine hid_in (fun z => ?_) (g.kp a o e (hid_nt q)) (hid_nt q)
    rcases h1 a z with z | z
    · exact n z
    · rw [z] at e; cases e
  refine ⟨fun i m d q => ?_, fun i t ds q => ?_, fun i j t u es fs p hij e1 => ?_, tr, by unfold pubE; simpa using S.len, fun p hp => absurd hp (by simp), tb, fun i h q => ?_⟩
  · obtain ⟨m', d', e, q1⟩ := pubE_at q
    cases e
    obtain ⟨v, a1, a2, a3⟩ := S.pu i m d q1
    exact ⟨v, a1, a2.ext ex.hs, a3⟩
  · obtain ⟨m', d', e, _⟩ := pubE_at q
    cases e
  · obtain ⟨m', d', e, _⟩ := pubE_at e1
    cases e
  · obtain ⟨m', d', e, _⟩ := pubE_at q
    cases e
end
/-- the outcome of an expression as that of a call -/
def foOf : RE → Option FO
  | .ok _ _ => some .lets
  | .err c d => some (.err c d)
  | .st => none
section
variable {X : Cx} {pins : List (Addr × Obj)} {σ : L2.St} {H : Hp} {s : Shared}
/-- a lambda is made -/
theorem lam_make3 {c Pt : Addr} {params : Arguments} {body : Expr} {scope : Scope} {pos : Pos} {E : Value → Shared → Prop} {Q : Value → Shared → Prop} (I : Inv X pins σ H s) (TB : LamX.TabB X.base X.mg c Pt) (hcode : X.env.code = .ref c)
    (hm : (Pt, X.env.qual ++ "<lambda>") ∈ TbK X.K) (hu : ∀ p ∈ TbK X.K, p.1 = Pt → p.2 = X.env.qual ++ "<lambda>") (hT : LamX.Tabs (TbK X.K) H) (hdef : defaultsOf params X.env = ([], [])) (hfree : ∀ y ∈ scope.names, y.2 = .free → ∃ c, X.env.cells.lookup y.1 = some c)
    (h : ∀ (f c' : Addr) (pm ctv : Value) (H1 : Hp) (s' : Shared), Inv X pins σ H1 s' → Gr X.K H H1 →
      s'.heap.get? f = some (PySem.W.kla_obj "<lambda>" (X.env.qual ++ "<lambda>") params body scope (cloFrom X.env.cells scope.names []) pm c' ctv) → H1 f = none → f ∉ frs X.stack → f ∉ X.fs → f ≠ X.env.locals → H1 c' = some (LamX.CodeO c' (X.env.qual ++ "<lambda>")) → Q (.ref f) s') :
    wpAny (model X.prog X.w) X.A (eval (.Lambda params body scope pos) X.env) Q E s := by
  obtain ⟨ps, hP, ht, ha⟩ := hT _ hm
  refine PySem.W.kla_eval hdef ?_
  have bP : s.heap.BuiltinsAt X.mg Pt := TB.bm.keeps I.bk
  have hP' : s.heap.get? Pt = some { cls := .none, data := .fields ps } := I.hok Pt _ hP
  have lf : ∀ f, s.heap.objs.size ≤ f → f ∉ frs X.stack ∧ f ∉ X.fs ∧ f ≠ X.env.locals := fun f hf => by
    have n2 : f ∉ X.fs := I.nofs hf
    have n3 : f ≠ X.env.locals := fun z => by
      have h1 := I.lt
      rw [← z] at h1
      exact Nat.lt_irrefl _ (Nat.lt_of_lt_of_le h1 hf)
    refine ⟨fun z => ?_, n2, n3⟩
    rcases List.mem_cons.mp (I.stkSub _ z) with e | e
    · exact n3 e
    · exact n2 e
  cases hc : codeAmong pos ps.toList with
  | none =>
    refine PySem.W.kla_makeFunction (mg := X.mg) (c := c) (P := Pt) (ps := ps) (closure_ok hfree) I.ok.glob (I.mod.glob.keeps I.bk) hcode (TB.code.keeps I.bk) hP' ht hc TB.gP bP fun c' ctv h' tk hx hge hlt hrec htb => ?_
    obtain ⟨c2, oc, vs, t, e2, hoc, hd, hv⟩ := hrec
    cases e2
    have hsz : s.heap.objs.size ≤ h'.objs.size := Nat.le_trans hge (Nat.le_of_lt hlt)
    have nC : H c' = none := I.hok.fresh hge
    have I1 := LamX.inv_table (t' := tk) (more := #[rawInt pos.line, rawInt pos.col, .ref c']) (h' := h'.push (PySem.W.kla_obj "<lambda>" (X.env.qual ++ "<lambda>") params body scope (cloFrom X.env.cells scope.names []) ((X.mg "__name__").getD .none) c' ctv)) I hP
      (fun b o hb e => Heap.get?_push_of_some _ (hx b o hb e)) (Heap.get?_push_of_some _ htb) hge ⟨oc, vs, t, Heap.get?_push_of_some _ hoc, hd, hv⟩
    have hE : ∀ (b : Addr) (o : HO), H b = some o → NT o → upd (upd H Pt (.tbl (ps ++ #[rawInt pos.line, rawInt pos.col, .ref c']))) c' (LamX.CodeO c' (X.env.qual ++ "<lambda>")) b = some o := fun b o e n => by
      rw [upd_ne (ne_of_none e nC), upd_ne (fun z => n ps (Option.some.inj (e.symm.trans (by rw [z]; exact hP))))]
      exact e
    have eL : (ps ++ #[rawInt pos.line, rawInt pos.col, .ref c']).toList = ps.toList ++ [rawInt pos.line, rawInt pos.col, .ref c'] := by simp
    have T1 : LamX.Tabs (TbK X.K) (upd (upd H Pt (.tbl (ps ++ #[rawInt pos.line, rawInt pos.col, .ref c']))) c' (LamX.CodeO c' (X.env.qual ++ "<lambda>"))) := fun p hp => by
      by_cases hb : p.1 = Pt
      · rw [hu p hp hb, hb]
        refine ⟨_, by rw [upd_ne (ne_of_none hP nC), upd_same], by rw [eL]; exact PySem.TriplesOk_snoc _ _ _ _ ht, fun p' cv hcv => ?_⟩
        rw [eL] at hcv
        rcases LamX.among_app _ ht hcv with z | z
        · obtain ⟨c0, e1, e2⟩ := ha p' cv z
          exact ⟨c0, e1, hE _ _ e2 LamX.codeO_ne⟩
        · exact ⟨c', z, upd_same⟩
      · obtain ⟨ps', a1, a2, a3⟩ := hT p hp
        refine ⟨ps', by rw [upd_ne (ne_of_none a1 nC), upd_ne hb]; exact a1, a2, fun p' cv hcv => ?_⟩
        obtain ⟨c0, e1, e2⟩ := a3 p' cv hcv
        exact ⟨c0, e1, hE _ _ e2 LamX.codeO_ne⟩
    have al : ∀ a, upd (upd H Pt (.tbl (ps ++ #[rawInt pos.line, rawInt pos.col, .ref c']))) c' (LamX.CodeO c' (X.env.qual ++ "<lambda>")) a = none → H a = none := fun a e => by
      by_cases h1 : a = c'
      · rw [h1, upd_same] at e; cases e
      · rw [upd_ne h1] at e
        by_cases h2 : a = Pt
        · rw [h2, upd_same] at e; cases e
        · rw [upd_ne h2] at e
          exact e
    obtain ⟨n1, n2, n3⟩ := lf _ hsz
    refine h h'.objs.size c' ((X.mg "__name__").getD .none) ctv _ _ I1 ⟨hE, al, fun _ => T1⟩ (Heap.get?_push_size _ rfl) ?_ n1 n2 n3 upd_same
    have m1 : h'.objs.size ≠ c' := Nat.ne_of_gt hlt
    have m2 : h'.objs.size ≠ Pt := Nat.ne_of_gt (Nat.lt_of_lt_of_le (Heap.lt_size hP') hsz)
    rw [upd_ne m1, upd_ne m2]
    exact I.hok.fresh hsz
  | some cv =>
    obtain ⟨c', e, hco⟩ := ha pos cv hc
    subst e
    refine PySem.W.kla_makeFunctionHit (mg := X.mg) (c := c) (P := Pt) (ps := ps) (closure_ok hfree) I.ok.glob (I.mod.glob.keeps I.bk) hcode (TB.code.keeps I.bk) hP' ht hc bP fun ctv h' tk hx hsz => ?_
    have I1 : Inv X pins σ H { s with heap := h'.push (PySem.W.kla_obj "<lambda>" (X.env.qual ++ "<lambda>") params body scope (cloFrom X.env.cells scope.names []) ((X.mg "__name__").getD .none) c' ctv), toks := tk } := I.kept fun b o e => Heap.get?_push_of_some _ (hx b o e)
    obtain ⟨n1, n2, n3⟩ := lf _ hsz
    exact h h'.objs.size c' ((X.mg "__name__").getD .none) ctv H _ I1 (Ext.gr (Ext.rfl H)) (Heap.get?_push_size _ rfl) (I.hok.fresh hsz) n1 n2 n3 hco
/-- what it does, over the ground of the state where it is made -/
theorem lam_start3 {A : Around} {outer : List PySem.Env} {E : XK} {scope : Scope} {f c' : Addr} {h₁ : Heap} {tk : Nat} {HZ : Hp} {s1 : Shared} (I : Inv X pins σ H s) (L : LamX.LamS X.env.scope scope) (e0 : Env0 X.prog X.w X.K X.mg X.base A outer s1 HZ) (hd : A.handled = none)
    (hc : ∀ y c o, X.env.cells.lookup y = some c → s.heap.get? c = some o → s1.heap.get? c = some o ∧ HZ c = none) (hns : h₁.Ns s1.heap.objs.size fun y => ([] : List (Str × Value)).reverse.lookup y) (kp : ∀ b o, s1.heap.get? b = some o → h₁.get? b = some o) :
    Inv (LamX.lamCx X A outer s1 HZ E scope f c') [] σ HZ { s1 with heap := h₁, toks := tk } := by
  have has := L.has I.ok
  have back : ∀ {y c}, (cloFrom X.env.cells scope.names []).lookup y = some c → X.env.cells.lookup y = some c := fun {y c} e => by
    rcases cloFrom_mem (PySem.mem_of_lookup e) with hm | ⟨h1, h2⟩
    · cases hm
    · obtain ⟨c1, q⟩ := has _ h1 rfl
      have q : X.env.cells.lookup y = some c1 := q
      have e2 : c = c1 := by
        rw [h2, q] <;> rfl
      rw [e2]
      exact q
  have fwd : ∀ {y}, scope.names.lookup y = some .free → ∃ c, (cloFrom X.env.cells scope.names []).lookup y = some c := fun {y} hl => by
    have hy : (y, NameKind.free) ∈ scope.names := PySem.mem_of_lookup hl
    exact mem_lookup (cloFrom_has (cells := X.env.cells) (acc := []) hy)
  have cellK : ∀ {y : Str} {c : Addr} {v : Option Value}, X.env.cells.lookup y = some c → s.heap.IsCell c v → h₁.IsCell c v := fun {y c v} n ⟨o, ho, hd⟩ => ⟨o, kp _ _ (hc y c o n ho).1, hd⟩
  have noEx : ∀ b : Addr, b ∉ (LamX.lamCx X A outer s1 HZ E scope f c').ex := fun b z => nomatch (show b ∈ ([] : List Addr) from z)
  refine ⟨⟨e0.mod, L.kind, rfl, rfl, Nat.le_refl _, fun y z c e1 e2 => I.ok.inj y z c (back e1) (back e2), fun y hy => ?_, fun y c z _ => ?_, fun _ => hd, Around.frames_deeper e0.frames, .inr ⟨rfl, rfl⟩, fun b z => absurd z (noEx b), e0.bs, e0.bsz, fun b _ _ => noEx b,
      fun b z => absurd z (noEx b), e0.funs, e0.frf⟩,
    rfl, e0.bare, Un.kept kp, ⟨_, hns, fun i y v e1 e2 e3 => ?_⟩, fun y c e => ?_, e0.hok.fresh (Nat.le_refl _), fun y c e => ?_, fun q hq => absurd (show q ∈ ([] : List (Addr × Obj)) ++ [] from hq) (by simp), e0.hok.kept kp, I.len⟩
  · have hy : scope.names.lookup y = some .cell ∨ scope.names.lookup y = some .free := hy
    rcases hy with hy | hy
    · exact absurd rfl (L.own _ (PySem.mem_of_lookup hy)).2
    · exact fwd hy
  · have z : false = true := z
    cases z
  · have e3 : Vis scope y := e3
    rcases e3 with k | k | k
    · exact absurd rfl (L.own _ (PySem.mem_of_lookup k)).1
    · exact absurd rfl (L.own _ (PySem.mem_of_lookup k)).2
    · obtain ⟨m, hn, hl⟩ := I.loc
      have hvis : Vis X.env.scope y := (L.free _ (PySem.mem_of_lookup k) rfl).elim (fun k => .inr (.inl k)) fun k => .inr (.inr k)
      obtain ⟨u, r, q⟩ := hl i y v e1 e2 hvis
      obtain ⟨c2, h2⟩ := fwd k
      refine ⟨u, r, .inr ⟨.inr k, c2, h2, ?_⟩⟩
      have c1 := back h2
      rcases q with ⟨k', _⟩ | ⟨_, c3, e', z⟩
      · have k' : X.env.scope.names.lookup y = some .local := k'
        rcases L.free _ (PySem.mem_of_lookup k) rfl with k2 | k2 <;> rw [show X.env.scope.names.lookup y = _ from k2] at k' <;> cases k'
      · rw [c1] at e'
        cases e'
        exact cellK c1 z
  · obtain ⟨u, z⟩ := I.cell y c (back e)
    exact ⟨u, cellK (back e) z⟩
  · obtain ⟨u, o, ho, hd⟩ := I.cell y c (back e)
    exact (hc y c o (back e) ho).2
theorem lam_can {τ : Nat → Addr} {A0 P : List Addr} {ρ : Env} {f c' : Addr} {pm ctv : Value} {params : Arguments} {body : Expr} {scope : Scope} {k : Nat} {o : FO} {fb : Env → RE} (I : Inv X [] σ H s) (hfn0 : ∀ x, X.fn x = true) (S : SRep X.K τ A0 H σ ρ P) (L : LamX.LamS X.env.scope scope)
    (hf : s.heap.get? f = some (PySem.W.kla_obj "<lambda>" (X.env.qual ++ "<lambda>") params body scope (cloFrom X.env.cells scope.names []) pm c' ctv)) (hfn : H f = none) (hfr : f ∉ frs X.stack) (hco : H c' = some (LamX.CodeO c' (X.env.qual ++ "<lambda>")))
    (hbind : bindArgs (PySem.W.kla_fn "<lambda>" (X.env.qual ++ "<lambda>") params body scope (cloFrom X.env.cells scope.names []) pm (.ref c') ctv) ⟨[], []⟩ = pure [])
    (hbody : ∀ (A : Around) (outer : List PySem.Env) (s : Shared) (H : Hp) (E : XK) (f c' : Addr), Cn (LamX.lamCx X A outer s H E scope f c') E k → DE (LamX.lamCx X A outer s H E scope f c') E body fb) (ho : foOf (fb (pubE ρ)) = some o) :
    Can X.prog X.w X.K X.mg (ground s H (frs X.stack)) (k + 1) H (P ++ A0) f o := by
  refine ⟨⟨_, ground_get hf hfn hfr, fun h e => ⟨_, _, _, _, e⟩⟩, fun A out2 s2 H2 B Q E hgd hr e0 g b1 b2 tr tb q => ?_⟩
  have of1 := (e0.bs f _ (ground_get hf hfn hfr)).1
  have hco2 : H2 c' = some (LamX.CodeO c' (X.env.qual ++ "<lambda>")) := g.kp _ _ hco LamX.codeO_ne
  obtain ⟨⟨oc, vs, t, hoc, hdc, hvc⟩, _, _⟩ := e0.hok c' _ hco2
  have lim : s2.heap.NoLimit := e0.mod.nolimit.keeps fun b o e => (e0.bs b o e).1
  have cfr : ∀ y c, X.env.cells.lookup y = some c → c ∉ frs X.stack := fun y c e hm => by
    rcases List.mem_cons.mp (I.stkSub c hm) with z | z
    · exact I.cne y c e z
    · obtain ⟨_, o', ho', _⟩ := I.ok.funs.mem z
      exact absurd (Nat.lt_of_lt_of_le (Heap.lt_size ho') (I.ok.cab y c (hfn0 y) e)) (Nat.lt_irrefl _)
  have cells : ∀ y c o, X.env.cells.lookup y = some c → s.heap.get? c = some o → s2.heap.get? c = some o ∧ H2 c = none := fun y c o e ho => e0.bs c o (ground_get ho (I.freeC y c e) (cfr y c e))
  have e1 : Env0 X.prog X.w X.K X.mg X.base A out2 s2 H2 := env0_less e0 I.mod (fun b o e => base_ground I e) (by
    show X.base.objs.size ≤ (PySem.W.hideAll _ _).objs.size
    rw [PySem.W.hideAll_size]
    exact Nat.le_trans I.ok.bsz I.sz)
  refine PySem.W.kla_callFunE hr.depth of1 rfl L.co L.gen rfl ⟨c', oc, vs, t, rfl, hoc, hdc, hvc⟩ ?_
  rw [hbind]
  refine wpAny_pure (wpAny_newFunctionEnv (fun y hy => (L.own y hy).2) (fun y hy => absurd hy (by simp)) (fun h₁ hns hsb => ⟨lim.fresh _ hsb, ?_⟩) L.kind)
  show codeAny _ _ (.expr body (LamX.lamEnv X scope s2.heap.objs.size f c')) _ _
  have kp : ∀ b o, s2.heap.get? b = some o → h₁.get? b = some o := fun b o e => hsb.extBut b o (Nat.ne_of_lt (Heap.lt_size e)) (Heap.get?_push_of_some _ e)
  have J : Inv (LamX.lamCx X A out2 s2 H2 E scope f c') [] σ H2 { s2 with heap := h₁, toks := s2.toks + ([] : List (Str × Value)).length } := lam_start3 I L e1 hr.hd cells hns kp
  have cn : Cn (LamX.lamCx X A out2 s2 H2 E scope f c') E k := ⟨hgd, hr.deeper _, passes_call (W := fun cls d _ H => E cls d H) (takes_of rfl rfl rfl rfl) (fun _ _ _ _ h => h), takes_of rfl rfl rfl rfl, rfl⟩
  have S2 := S.pubs g b2 tr tb
  have ht : tDE X.K E fb σ H2 Q := by
    refine ⟨τ, B, [], pubE ρ, S2, ?_⟩
    have less : ∀ {P' : List Addr} {H' : Hp}, Ext (hid (P' ++ B) H') (hid B H') := fun {P' H'} => hid_less fun a z => List.mem_append_right _ z
    cases q2 : fb (pubE ρ) with
    | ok w ρ' =>
      rw [q2] at ho
      cases ho
      cases w with
      | pu d => exact fun v H' P' t _ _ => q v H' t.toGr
      | frs ds => exact fun p xs H' P' t _ _ _ _ _ _ => q (.ref p) H' t.toGr
    | err c d =>
      rw [q2] at ho
      cases ho
      exact fun dx v H' P' t hx hr => q dx v H' t.toGr hx (hr.ext less)
    | st => rw [q2] at ho; cases ho
  refine PySem.W.kla_codeExpr (wpAny_mono ((hbody _ _ s2 H2 E f c' cn).pe.run [] _ _ H2 Q J ht) (fun v s' hq => ?_) fun e s' hq => hq)
  obtain ⟨w', H', J', rv, q⟩ := hq
  exact ⟨w', H', J'.os, J'.bare, J'.base, J'.hok, rv, q⟩
end
end DL
/-! D20: a stretch of statements along which an own list is shared. -/
namespace DL
open PySem L2 PyProof.Rows
theorem execs_append (env : PySem.Env) (bs : List Stmt) : ∀ as : List Stmt, execs (as ++ bs) env = (do match ← execs as env with | .next => execs bs env | f => pure f)
  | [] => by
    show execs bs env = _
    rw [show execs [] env = pure .next from rfl]
    simp
  | a :: as => by
    rw [List.cons_append, execs_cons, execs_cons, execs_append env bs as, LawfulMonad.bind_assoc]
    congr 1
    funext f
    cases f <;> simp
theorem pss_append {X : Cx} {as bs : List Stmt} {t u : TS} (h1 : PSs X as t) (h2 : PSs X bs u) : PSs X (as ++ bs) (tSeq t u) := by
  refine ⟨fun pins s σ H D I h => ?_⟩
  rw [execs_append]
  refine wpAny_bind (thn (h1.run pins s σ H { D with nx := u D } I h) fun f s1 q => ?_)
  cases f with
  | next =>
    obtain ⟨σ1, H1, I1, q1⟩ := q
    exact h2.run pins s1 σ1 H1 D I1 q1
  | brk => exact wpAny_pure q
  | cont => exact wpAny_pure q
  | ret v => exact wpAny_pure q
/-! ### data without lists -/
mutual
def noL : D → Bool
  | .none => true
  | .bool _ => true
  | .int _ => true
  | .str _ => true
  | .tuple ds => noLs ds
  | _ => false
def noLs : List D → Bool
  | [] => true
  | d :: ds => noL d && noLs ds
end
section
variable {K : PySem.W.Frag} {H : Hp}
mutual
theorem noL_rp {p : Addr} {ys : List V} {A B : List Addr} (hp : H p = some (.lst ys)) (hB : ∀ a ∈ B, a = p ∨ a ∈ A) : ∀ {v : V} {d : D}, noL d = true → Rp K (hid A H) v d → Rp K (hid B H) v d
  | _, _, _, .non => .non
  | _, _, _, .bl b => .bl b
  | _, _, _, .int i => .int i
  | _, _, _, .str x => .str x
  | _, _, h, .tup e r => .tup (hid_in (fun z => (hB _ z).elim (fun w => by
      have e2 := (hid_of e).2
      rw [w, hp] at e2; cases e2) (hid_of e).1) (hid_of e).2) (noLs_rp hp hB h r)
  | _, _, h, .lst _ _ => by cases h
  | _, _, h, .emp _ => by cases h
  | _, _, h, .exc _ _ _ => by cases h
  | _, _, h, .fn => by cases h
theorem noLs_rp {p : Addr} {ys : List V} {A B : List Addr} (hp : H p = some (.lst ys)) (hB : ∀ a ∈ B, a = p ∨ a ∈ A) : ∀ {vs : List V} {ds : List D}, noLs ds = true → Rps K (hid A H) vs ds → Rps K (hid B H) vs ds
  | _, _, _, .nil => .nil
  | _, _, h, .cons a r => by
    have h : (noL _ && noLs _) = true := h
    rw [Bool.and_eq_true] at h
    exact .cons (noL_rp hp hB h.1 a) (noLs_rp hp hB h.2 r)
end
end
/-! ### the stretch -/
def lendSl : Option Sl → Option Sl
  | some (.pub 0 d) => some (.pub 1 d)
  | some (.own t ds) => some (.own t ds)
  | _ => none
def lendE (i : Nat) (ds : List D) (ρ : Env) : Env := (ρ.map lendSl).set i (some (.pub 2 (.list ds)))
def backSl : Option Sl → Option Sl
  | some (.pub 1 d) => some (.pub 0 d)
  | some (.pub 0 d) => if noL d then some (.pub 0 d) else none
  | some (.own t ds) => if noLs ds then some (.own t ds) else none
  | _ => none
def backE (i : Nat) (ds : List D) (ρ : Env) : Env := (ρ.map backSl).set i (some (.own 0 ds))
/-- what is kept where the stretch returns -/
def stripSl : Option Sl → Option Sl
  | some (.own (t + 1) ds) => some (.own (t + 1) ds)
  | _ => none
def tauL (p : Addr) (τ : Nat → Addr) : Nat → Addr := fun n => if n = 0 then p else τ n
theorem map_at {f : Option Sl → Option Sl} {ρ : Env} {j : Nat} {s : Sl} (h : (ρ.map f)[j]? = some (some s)) : ∃ o, ρ[j]? = some o ∧ f o = some s := by
  rw [List.getElem?_map] at h
  cases q : ρ[j]? with
  | none => rw [q] at h; cases h
  | some o => rw [q] at h; exact ⟨o, rfl, Option.some.inj h⟩
theorem set_at {ρ : Env} {i j : Nat} {o : Option Sl} {s : Sl} (h : (ρ.set i o)[j]? = some (some s)) : (j = i ∧ o = some s) ∨ (j ≠ i ∧ ρ[j]? = some (some s)) := by
  rw [List.getElem?_set] at h
  by_cases e : i = j
  · rw [if_pos e] at h
    by_cases z : i < ρ.length
    · rw [if_pos z] at h; exact .inl ⟨e.symm, Option.some.inj h⟩
    · rw [if_neg z] at h; cases h
  · rw [if_neg e] at h; exact .inr ⟨fun z => e z.symm, h⟩
section
variable {K : PySem.W.Frag} {E : XK} {τ : Nat → Addr} {A0 P : List Addr} {H : Hp} {σ : L2.St} {ρ : Env}
theorem SRep.lend (S : SRep K τ A0 H σ ρ P) {i : Nat} {ds : List D} {p : Addr} (h : ρ[i]? = some (some (.own 0 ds))) (hσ : σ[i]? = some (some (.ref p))) (hn : noN ρ = true) : SRep K (tauL p τ) A0 H σ (lendE i ds ρ) (P.filter (· ≠ p)) := by
  obtain ⟨p', xs, h1, h2, h3, h4, h5⟩ := S.own i 0 ds h
  rw [hσ] at h1
  cases h1
  have hA : p ∉ A0 := S.dj p h2
  have sub : ∀ a ∈ P.filter (· ≠ p) ++ A0, a ∈ P ++ A0 ∧ a ≠ p := fun a z => (List.mem_append.mp z).elim (fun z => by
      have z := List.mem_filter.mp z
      exact ⟨List.mem_append_left _ z.1, of_decide_eq_true z.2⟩) fun z => ⟨List.mem_append_right _ z, fun w => hA (by rw [← w]; exact z)⟩
  refine ⟨fun j m d q => ?_, fun j t es q => ?_, fun j k t u es fs q hjk e1 e2 => ?_, fun a z => S.tr a (sub a z).1, by unfold lendE; rw [List.length_set, List.length_map]; exact S.len, fun a z => S.dj a (List.mem_filter.mp z).1, S.tb, fun j g q => ?_⟩
  · rcases set_at q with ⟨rfl, e⟩ | ⟨ne, e⟩
    · cases e
      refine ⟨.ref p, hσ, .lst (hid_in (fun z => (sub p z).2 rfl) h3) (h4.ext (hid_less fun a z => (sub a z).1)), fun _ => rfl⟩
    · obtain ⟨o, e1, e2⟩ := map_at e
      unfold lendSl at e2
      split at e2
      · cases e2
        obtain ⟨v, a1, a2, _⟩ := S.pu j 0 d e1
        refine ⟨v, a1, a2.ext (hid_less fun a z => ?_), fun z => nomatch z⟩
        have z : a ∈ tauL p τ 0 :: (P.filter (· ≠ p) ++ A0) := z
        rcases List.mem_cons.mp z with w | w
        · rw [show tauL p τ 0 = p from rfl] at w
          rw [w]
          exact List.mem_append_left _ h2
        · exact (sub a w).1
      · cases e2
      · cases e2
  · rcases set_at q with ⟨rfl, e⟩ | ⟨ne, e⟩
    · cases e
    · obtain ⟨o, e1, e2⟩ := map_at e
      unfold lendSl at e2
      split at e2
      · cases e2
      · cases e2
        obtain ⟨p2, ys, a1, a2, a3, a4, a5⟩ := S.own j t es e1
        have np : p2 ≠ p := fun z => S.inj i j 0 t ds es p ne.symm h e1 hσ (by rw [a1, z])
        refine ⟨p2, ys, a1, List.mem_filter.mpr ⟨a2, decide_eq_true np⟩, a3, a4.ext (hid_less fun a z => (sub a z).1), a5.elim .inl fun z => ?_⟩
        by_cases t0 : t = 0
        · exact .inl t0
        · refine .inr ?_
          unfold tauL
          rw [if_neg t0]
          exact z
      · cases e2
  · have up : ∀ {j t : Nat} {es : List D}, (lendE i ds ρ)[j]? = some (some (.own t es)) → ρ[j]? = some (some (.own t es)) := fun {j t es} z => by
      rcases set_at z with ⟨rfl, e⟩ | ⟨ne, e⟩
      · cases e
      · obtain ⟨o, e1, e2⟩ := map_at e
        unfold lendSl at e2
        split at e2
        · cases e2
        · cases e2; exact e1
        · cases e2
    exact S.inj j k t u es fs q hjk (up e1) (up e2)
  · rcases set_at q with ⟨rfl, e⟩ | ⟨ne, e⟩
    · cases e
    · obtain ⟨o, e1, e2⟩ := map_at e
      unfold lendSl at e2
      split at e2 <;> cases e2
theorem SRep.back {p : Addr} {xs : List V} {P1 : List Addr} {i : Nat} {ds : List D} (S : SRep K (tauL p τ) A0 H σ ρ P1) (h : ρ[i]? = some (some (.pub 2 (.list ds)))) (hp : p ∉ P1) (hA : p ∉ A0) (hn : noLs ds = true) : SRep K τ A0 H σ (backE i ds ρ) (p :: P1) := by
  obtain ⟨v, h1, h2, h3⟩ := S.pu i 2 _ h
  have h3 := h3 rfl
  rw [show tauL p τ 0 = p from rfl] at h3
  subst h3
  have h2 : Rp K (hid (P1 ++ A0) H) (.ref p) (.list ds) := h2
  cases h2 with
  | lst e r =>
    have hl := (hid_of e).2
    have hB : ∀ a ∈ p :: P1 ++ A0, a = p ∨ a ∈ P1 ++ A0 := fun a z => List.mem_cons.mp z
    have own_up : ∀ {j t : Nat} {es : List D}, (backE i ds ρ)[j]? = some (some (.own t es)) → (j = i ∧ t = 0 ∧ es = ds) ∨ (j ≠ i ∧ ρ[j]? = some (some (.own t es)) ∧ noLs es = true) := fun {j t es} z => by
      rcases set_at z with ⟨rfl, e⟩ | ⟨ne, e⟩
      · cases e; exact .inl ⟨rfl, rfl, rfl⟩
      · obtain ⟨o, e1, e2⟩ := map_at e
        unfold backSl at e2
        split at e2
        · cases e2
        · split at e2 <;> cases e2
        · split at e2
          · cases e2; rename_i w; exact .inr ⟨ne, e1, w⟩
          · cases e2
        · cases e2
    refine ⟨fun j m d q => ?_, fun j t es q => ?_, fun j k t u es fs q hjk e1 e2 e3 => ?_, fun a z => ?_, by unfold backE; rw [List.length_set, List.length_map]; exact S.len, fun a z => ?_, S.tb, fun j g q => ?_⟩
    · rcases set_at q with ⟨rfl, e⟩ | ⟨ne, e⟩
      · cases e
      · obtain ⟨o, e1, e2⟩ := map_at e
        unfold backSl at e2
        split at e2
        · cases e2
          obtain ⟨v, a1, a2, _⟩ := S.pu j 1 d e1
          exact ⟨v, a1, a2, fun z => nomatch z⟩
        · split at e2
          · rename_i w
            cases e2
            obtain ⟨v, a1, a2, _⟩ := S.pu j 0 d e1
            exact ⟨v, a1, noL_rp hl hB w a2, fun z => nomatch z⟩
          · cases e2
        · split at e2 <;> cases e2
        · cases e2
    · rcases own_up q with ⟨rfl, rfl, rfl⟩ | ⟨ne, e, w⟩
      · exact ⟨p, _, h1, List.mem_cons_self, hl, noLs_rp hl hB hn r, .inl rfl⟩
      · obtain ⟨p2, ys, a1, a2, a3, a4, a5⟩ := S.own j t es e
        refine ⟨p2, ys, a1, List.mem_cons_of_mem _ a2, a3, noLs_rp hl hB w a4, a5.elim .inl fun z => ?_⟩
        by_cases t0 : t = 0
        · exact .inl t0
        · refine .inr ?_
          unfold tauL at z
          rw [if_neg t0] at z
          exact z
    · rcases own_up e1 with ⟨rfl, rfl, rfl⟩ | ⟨ne, f1, w⟩
      · rw [h1] at e3
        cases e3
        rcases own_up e2 with ⟨rfl, rfl, rfl⟩ | ⟨ne, f2, w⟩
        · exact fun _ => hjk rfl
        · obtain ⟨p2, ys, a1, a2, a3, a4, a5⟩ := S.own k u fs f2
          intro z
          rw [a1] at z
          cases z
          exact hp a2
      · rcases own_up e2 with ⟨rfl, rfl, rfl⟩ | ⟨ne2, f2, w2⟩
        · obtain ⟨p2, ys, a1, a2, a3, a4, a5⟩ := S.own j t es f1
          rw [a1] at e3
          cases e3
          intro z
          rw [h1] at z
          cases z
          exact hp a2
        · exact S.inj j k t u es fs q hjk f1 f2 e3
    · rcases List.mem_cons.mp z with w | w
      · rw [w, hl]; exact fun z => nomatch z
      · exact S.tr a w
    · rcases List.mem_cons.mp z with w | w
      · rw [w]; exact hA
      · exact S.dj a w
    · rcases set_at q with ⟨rfl, e⟩ | ⟨ne, e⟩
      · cases e
      · obtain ⟨o, e1, e2⟩ := map_at e
        unfold backSl at e2
        split at e2
        · cases e2
        · split at e2 <;> cases e2
        · split at e2 <;> cases e2
        · cases e2
end
end DL
/-! D21: the stretch as a rule; is not None of an own list. -/
namespace DL
open PySem L2 PyProof.Rows
def sStretch (i : Nat) (gA gB : Env → RS) : Env → RS := fun ρ => match ρ[i]? with
  | some (some (.own 0 ds)) => if noN ρ = true then (match gA (lendE i ds ρ) with
    | .nx ρ1 => (match ρ1[i]? with
      | some (some (.pub 2 (.list es))) => if noLs es = true then gB (backE i es ρ1) else .st
      | _ => .st)
    | .ret (.pu d) ρ1 => .ret (.pu d) (ρ1.map stripSl)
    | .err c d => .err c d
    | _ => .st) else .st
  | _ => sSeq gA gB ρ
section
variable {K : PySem.W.Frag} {E : XK} {τ : Nat → Addr} {A0 P : List Addr} {H : Hp} {σ : L2.St} {ρ : Env}
theorem SRep.strip {p : Addr} (S : SRep K (tauL p τ) A0 H σ ρ P) : SRep K τ A0 H σ (ρ.map stripSl) P := by
  have up : ∀ {j t : Nat} {es : List D}, (ρ.map stripSl)[j]? = some (some (.own t es)) → t ≠ 0 ∧ ρ[j]? = some (some (.own t es)) := fun {j t es} z => by
    obtain ⟨o, e1, e2⟩ := map_at z
    unfold stripSl at e2
    split at e2
    · cases e2; exact ⟨Nat.succ_ne_zero _, e1⟩
    · cases e2
  refine ⟨fun j m d q => ?_, fun j t es q => ?_, fun j k t u es fs q hjk e1 e2 => S.inj j k t u es fs q hjk (up e1).2 (up e2).2, S.tr, by rw [List.length_map]; exact S.len, S.dj, S.tb, fun j g q => ?_⟩
  · obtain ⟨o, e1, e2⟩ := map_at q
    unfold stripSl at e2
    split at e2 <;> cases e2
  · obtain ⟨n0, e⟩ := up q
    obtain ⟨p2, ys, a1, a2, a3, a4, a5⟩ := S.own j t es e
    refine ⟨p2, ys, a1, a2, a3, a4, a5.elim .inl fun z => .inr ?_⟩
    unfold tauL at z
    rw [if_neg n0] at z
    exact z
  · obtain ⟨o, e1, e2⟩ := map_at q
    unfold stripSl at e2
    split at e2 <;> cases e2
end
section
variable {X : Cx} {E : XK} {as bs : List Stmt} {gA gB : Env → RS} {i : Nat}
theorem dss_stretch (hA : DSs X E as gA) (hB : DSs X E bs gB) : DSs X E (as ++ bs) (sStretch i gA gB) := by
  refine ⟨PSs.weak (pss_append hA.pss hB.pss) fun Dn σ H ⟨τ, A0, P, ρ, S, c⟩ => ?_⟩
  unfold sStretch at c
  split at c
  · rename_i ds q
    by_cases hn : noN ρ = true
    · rw [if_pos hn] at c
      obtain ⟨p, xs, hσ, hp, hl, _, _⟩ := S.own i 0 ds q
      have hA0 : p ∉ A0 := S.dj p hp
      refine ⟨tauL p τ, A0, P.filter (· ≠ p), lendE i ds ρ, S.lend q hσ hn, ?_⟩
      have lift : ∀ {H' : Hp} {P' : List Addr}, Stp X.K H (P.filter (· ≠ p)) H' P' → Stp X.K H P H' P' := fun {H' P'} t => ⟨fun a o n h nt => t.kp a o (fun z => n (List.mem_filter.mp z).1) h nt, fun a z => (t.nw a z).elim (fun w => .inl (List.mem_filter.mp w).1) .inr, t.al, t.tb⟩
      cases o : gA (lendE i ds ρ) with
      | nx ρ1 =>
        rw [o] at c
        dsimp only at c
        intro σ' H' P' t S'
        split at c
        · rename_i es q1
          by_cases h2 : noLs es = true
          · rw [if_pos h2] at c
            have np : p ∉ P' := fun z => by
              rcases t.nw p z with w | w
              · exact of_decide_eq_true (List.mem_filter.mp w).2 rfl
              · rw [hl] at w; cases w
            have t2 : Stp X.K H P H' (p :: P') := ⟨(lift t).kp, fun a z => (List.mem_cons.mp z).elim (fun w => .inl (by rw [w]; exact hp)) ((lift t).nw a), t.al, t.tb⟩
            exact ⟨τ, A0, p :: P', backE i es ρ1, S'.back (xs := []) q1 np hA0 h2, CDS.stp t2 c⟩
          · rw [if_neg h2] at c
            exact c.elim
        · exact c.elim
      | bk ρ1 => rw [o] at c; exact c.elim
      | ct ρ1 => rw [o] at c; exact c.elim
      | ret w ρ1 =>
        rw [o] at c
        cases w with
        | pu d => exact fun v σ' H' P' t S' r => c v σ' H' P' (lift t) S'.strip r
        | frs es => exact c.elim
      | err cc d =>
        rw [o] at c
        exact fun dx v H' P' t hx r => c dx v H' P' (lift t) hx r
      | st => rw [o] at c; exact c.elim
    · rw [if_neg hn] at c
      exact c.elim
  · exact seq_of ⟨τ, A0, P, ρ, S, c⟩
theorem dss_stretchN (n : Nat) {L : List Stmt} (hA : DSs X E (L.take n) gA) (hB : DSs X E (L.drop n) gB) : DSs X E L (sStretch i gA gB) := by
  have h := dss_stretch (i := i) hA hB
  rw [List.take_append_drop] at h
  exact h
/-- x is not None, x an own list or plain data -/
def fNotNO (i : Nat) : Env → RE := fun ρ => match ρ[i]? with
  | some (some (.own _ _)) => .ok (.pu (.bool true)) ρ
  | some (some (.pub _ .none)) => .ok (.pu (.bool false)) ρ
  | some (some (.pub _ (.list _))) => .ok (.pu (.bool true)) ρ
  | _ => .st
theorem t_notNO {a : Expr} {j : Nat} {p pos : Pos} (h0 : PE X a (tVar i)) : DT X E (.Compare a [.IsNot] [.Constant .none j p] pos) (fNotNO i) := by
  refine ⟨PT.weak (pt_cmpR op_notN h0 pe_non (nomark _)) fun σ H Q ⟨τ, A0, P, ρ, S, c⟩ => ?_⟩
  unfold fNotNO at c
  split at c
  · rename_i t ds q
    obtain ⟨p, xs, hσ, _⟩ := S.own i t ds q
    exact ⟨.ref p, hσ, rfl, true, rfl, by
      obtain ⟨b, e, z⟩ := c (.bl true) H P (Stp.rfl H P) S (.bl true)
      cases e
      exact z⟩
  · rename_i m q
    obtain ⟨v, hσ, r⟩ := S.puD q
    cases r
    exact ⟨.non, hσ, rfl, false, rfl, by
      obtain ⟨b, e, z⟩ := c (.bl false) H P (Stp.rfl H P) S (.bl false)
      cases e
      exact z⟩
  · rename_i m ds q
    obtain ⟨v, hσ, r⟩ := S.puD q
    cases r with
    | lst e r => exact ⟨_, hσ, rfl, true, rfl, by
      obtain ⟨b, e, z⟩ := c (.bl true) H P (Stp.rfl H P) S (.bl true)
      cases e
      exact z⟩
  · exact c.elim
end
end DL
/-! D22: an own exception class, read off the head. -/
namespace DLX
open PySem PySem.W PySem.Calls PyProof.Rows PySem.HandSPX
theorem xba {a b : Bool} (h : (a && b) = true) : a = true ∧ b = true := Bool.and_eq_true_iff.mp h
def xClo (K : Frag) (C : Addr) (fd : FuncData) : Bool := match fd.closure with
  | [(y, cc)] => decide (y = ("__class__" : Str)) && (match K.lookup cc with
    | some ⟨_, _, .cell (some (.ref C')), _⟩ => decide (C' = C)
    | _ => false)
  | _ => false
def xDfl (K : Frag) (fd : FuncData) : Bool := match fd.defaults with
  | .ref T => (match K.lookup T with
    | some ⟨_, _, .seq its _, _⟩ => (match its.toList with
      | [.none] => true
      | _ => false)
    | _ => false)
  | _ => false
def xCode (prog : Program) (K : Frag) (fd : FuncData) : Bool := match fd.code with
  | .ref cda => codeIn K (.ref cda) fd.qualname && (match K.lookup cda with
    | some ⟨_, _, .fields vs, _⟩ => (match (vs[2]? : Option Value) with
      | some (.str file _) => (prog.main.file : Str) == file
      | _ => false)
    | _ => false)
  | _ => false
abbrev ExV : Type := Option (Str × Arguments × FuncBody × Scope × Addr × Addr × Bool)
/-- what is looked at in the __init__ of the class at C -/
def exV (prog : Program) (K : Frag) (C : Addr) : ExV := match findIn K (.ref C) "__init__" with
  | some (some (.ref fI)) => (match K.lookup fI with
    | some ⟨_, _, .func fd, _⟩ => some (fd.name, fd.params, fd.body, fd.scope, fd.globals, fd.builtins, xClo K C fd && (xDfl K fd && (xCode prog K fd && decide (typeIn K (.ref fI) = some (.type "function")))))
    | _ => none)
  | _ => none
def exVal (A : Arguments) (B : List Stmt) : ExV := some ("__init__", A, .stmts B, xS, mainGlobals, builtinsNs, true)
def xCls (K : Frag) (C : Addr) : Bool := match K.lookup C with
  | some ⟨.type "type", _, .cls cd, sl⟩ => (match cd.mro, sl.toList with
    | .ref C' :: bm, [_, _, _, _, some (.builtin n), _] => C' == C && (n == "ValueError.__new__" && (!cd.hasDel && (cd.hasDict && refsVE bm)))
    | _, _ => false)
  | _ => false
def xB1 (K : Frag) (C : Addr) : Bool := xCls K C && (keepIn K (.ref C) && (decide (findIn K (.ref C) "__setattr__" = some (some (.builtin "object.__setattr__"))) && (decide (findIn K (.ref C) "__getattribute__" = some (some (.builtin "BaseException.__getattribute__"))) && (decide (findIn K (.ref C) "__getattr__" = some none) && (decide (findIn K (.ref C) "value" = some none) &&
  (decide (subIn K (.ref C) (.type "BaseException") = some true) && (decide (typeIn K (.ref C) = some (.type "type")) && (hasDictIn K C && (decide (ks_superIn K C C "__init__" = some (some (.builtin "ValueError.__init__"))) && (decide (subIn K (.ref C) (.type "ValueError") = some true) && decide (mroIn K C (.ref C) = some true)))))))))))
theorem xCls_ok {K : Frag} {C : Addr} (q : xCls K C = true) : ∃ nm q N bs bm sn sub ab col dd k0 k1 k2 k3 k5, K.lookup C = some (excClassObj nm q C N bs bm true sn sub ab col dd k0 k1 k2 k3 k5 "ValueError.__new__") ∧ refsVE bm = true := by
  unfold xCls at q
  split at q
  · rename_i dd cd sl ho
    split at q
    · rename_i C' bm k0 k1 k2 k3 n k5 hm hs
      obtain ⟨q1, q⟩ := xba q
      obtain ⟨q2, q⟩ := xba q
      obtain ⟨q3, q⟩ := xba q
      obtain ⟨q4, q5⟩ := xba q
      obtain rfl : C' = C := eq_of_beq q1
      obtain rfl : n = "ValueError.__new__" := eq_of_beq q2
      have hdel : cd.hasDel = false := by cases h : cd.hasDel <;> simp [h] at q3 ⊢
      obtain ⟨nm, bs, mro, ns, qn, hd, sn, sub, ab, col, del⟩ := cd
      dsimp only at hm hdel q4
      subst hm hdel q4
      have hsl : sl = #[k0, k1, k2, k3, some (.builtin "ValueError.__new__"), k5] := by
        obtain ⟨l⟩ := sl
        simp only at hs
        rw [hs]
      subst hsl
      exact ⟨nm, qn, ns, bs, bm, sn, sub, ab, col, dd, k0, k1, k2, k3, k5, ho, q5⟩
    · cases q
  · cases q
theorem exT_of {prog : Program} {K : Frag} {mg : Str → Option Value} {x : Str} {C : Addr} {A : Arguments} {B : List Stmt} (gC : mg x = some (.ref C)) (noS : mg "super" = none) (top : (prog.main.scope.names.lookup ("super" : Str)).isSome = false) (opq : nsIn K cStatics "thirdparty.any" = some none)
    (b : xB1 K C = true) (e : exV prog K C = exVal A B) (hA : ∃ (p1 p2 p3 : Pos) (j : Nat), A = xA p1 p2 p3 j) (hB : ∃ a b c d e f g h i k : Pos, B = xB a b c d e f g h i k ∧ (c.endLine == e.line) = true) : ExT prog K mg x C := by
  unfold xB1 at b
  obtain ⟨b1, b⟩ := xba b
  obtain ⟨b2, b⟩ := xba b
  obtain ⟨b3, b⟩ := xba b
  obtain ⟨b4, b⟩ := xba b
  obtain ⟨b5, b⟩ := xba b
  obtain ⟨b6, b⟩ := xba b
  obtain ⟨b7, b⟩ := xba b
  obtain ⟨b8, b⟩ := xba b
  obtain ⟨b9, b⟩ := xba b
  obtain ⟨b10, b⟩ := xba b
  obtain ⟨b11, b12⟩ := xba b
  refine ⟨gC, noS, top, b2, xCls_ok b1, of_decide_eq_true b3, of_decide_eq_true b4, of_decide_eq_true b5, of_decide_eq_true b6, of_decide_eq_true b7, of_decide_eq_true b8, b9, of_decide_eq_true b10, opq, of_decide_eq_true b11, of_decide_eq_true b12, ?_⟩
  unfold exV at e
  split at e
  · rename_i fI hfI
    split at e
    · rename_i oc od fd osl lk
      obtain ⟨n1, n2, n3, n4, n5, n6, n7, n8, n9, n10, n11, n12, n13, n14, n15⟩ := fd
      unfold exVal at e
      simp only [Option.some.injEq, Prod.mk.injEq] at e
      obtain ⟨h1, h2, h3, h4, h5, h6, h7⟩ := e
      subst h1 h2 h3 h4 h5 h6
      obtain ⟨c1, h7⟩ := xba h7
      obtain ⟨c2, h7⟩ := xba h7
      obtain ⟨c3, c4⟩ := xba h7
      unfold xClo at c1
      split at c1
      · rename_i y cc hcl
        obtain ⟨c5, c6⟩ := xba c1
        have c5 := of_decide_eq_true c5
        split at c6
        · rename_i cl cld C' csl lcc
          have c7 := of_decide_eq_true c6
          subst c7
          unfold xDfl at c2
          split at c2
          · rename_i T hT
            split at c2
            · rename_i u1 u2 its nn u3 lT
              split at c2
              · rename_i hits
                unfold xCode at c3
                split at c3
                · rename_i cda hcda
                  obtain ⟨c8, c9⟩ := xba c3
                  split at c9
                  · rename_i ccl cdd vs ccs lcda
                    split at c9
                    · rename_i file tf hf
                      dsimp only at hcl hT hcda
                      subst hcl hT hcda c5
                      refine ⟨fI, oc, od, T, n9, n10, n11, n12, cda, cc, n14, osl, n2, _, _, hfI, of_decide_eq_true c4, lk, ⟨_, nn, lT, ?_⟩, c8, hA, hB, ⟨cl, cld, csl, lcc⟩, ccl, cdd, vs, ccs, file, tf, lcda, hf, c9⟩
                      obtain ⟨l⟩ := its
                      dsimp only at hits
                      subst hits
                      rfl
                    · cases c9
                  · cases c9
                · cases c3
              · cases c2
            · cases c2
          · cases c2
        · cases c6
      · cases c1
    · cases e
  · cases e
end DLX
namespace GM
abbrev Grid := List (List Int)
def row (g : Grid) (i : Nat) : List Int := g[i]?.getD []
def at0 (r : List Int) (j : Nat) : Int := r[j]?.getD 0
def cell (g : Grid) (i j : Nat) : Int := at0 (row g i) j
structure Rect (R C : Nat) (g : Grid) : Prop where
  len : g.length = R
  row : ∀ r ∈ g, r.length = C
def NN (g : Grid) : Prop := ∀ i j, 0 ≤ cell g i j
def addr (r : List Int) (b : Nat) (z : Int) : List Int := r.modify b (· + z)
def addc (g : Grid) (a b : Nat) (z : Int) : Grid := g.modify a fun r => addr r b z
def beh (g : Grid) (a b c d : Nat) : Grid := addc (addc (addc (addc g a c 1) b d 1) a d (-1)) b c (-1)
theorem Rect.rowLen {R C : Nat} {g : Grid} (h : Rect R C g) {i : Nat} (hi : i < R) : (GM.row g i).length = C := by
  have hi' : i < g.length := by rw [h.len]; exact hi
  unfold GM.row
  rw [List.getElem?_eq_getElem hi']
  exact h.row _ (List.getElem_mem hi')
theorem addr_len (r : List Int) (b : Nat) (z : Int) : (addr r b z).length = r.length := by unfold addr; simp
theorem Rect.addc {R C : Nat} {g : Grid} (h : Rect R C g) (a b : Nat) (z : Int) : Rect R C (addc g a b z) := by
  refine ⟨by unfold GM.addc; simp [h.len], fun r hr => ?_⟩
  unfold GM.addc at hr
  obtain ⟨i, hi, e⟩ := List.mem_iff_getElem.mp hr
  rw [List.getElem_modify] at e
  have hi' : i < g.length := by simpa using hi
  have q := h.row _ (List.getElem_mem hi')
  split at e
  · rw [← e, addr_len]; exact q
  · rw [← e]; exact q
theorem at0_addr {r : List Int} {b : Nat} {z : Int} (hb : b < r.length) (j : Nat) : at0 (addr r b z) j = at0 r j + (if j = b then z else 0) := by
  unfold at0 addr
  rw [List.getElem?_modify]
  by_cases e : b = j
  · subst e
    rw [List.getElem?_eq_getElem hb]
    simp
  · have e' : ¬ j = b := fun q => e q.symm
    simp [e, e']
theorem row_addc {g : Grid} {a b : Nat} {z : Int} (ha : a < g.length) (i : Nat) : row (addc g a b z) i = if i = a then addr (row g a) b z else row g i := by
  unfold row addc
  rw [List.getElem?_modify]
  by_cases e : a = i
  · subst e
    rw [List.getElem?_eq_getElem ha]
    simp
  · have e' : ¬ i = a := fun q => e q.symm
    simp [e, e']
theorem cell_addc {R C : Nat} {g : Grid} (h : Rect R C g) {a b : Nat} {z : Int} (ha : a < R) (hb : b < C) (i j : Nat) : cell (addc g a b z) i j = cell g i j + (if i = a ∧ j = b then z else 0) := by
  unfold cell
  rw [row_addc (by rw [h.len]; exact ha)]
  by_cases e : i = a
  · subst e
    rw [if_pos rfl, at0_addr (by rw [h.rowLen ha]; exact hb)]
    simp
  · rw [if_neg e]
    simp [e]
theorem sum_addr : ∀ {r : List Int} {b : Nat} {z : Int}, b < r.length → (addr r b z).sum = r.sum + z
  | [], b, z, h => absurd h (Nat.not_lt_zero _)
  | x :: r, 0, z, _ => by
    show ((x + z) :: r).sum = _
    simp only [List.sum_cons]; omega
  | x :: r, b + 1, z, h => by
    show (x :: addr r b z).sum = _
    simp only [List.sum_cons]
    rw [sum_addr (Nat.lt_of_succ_lt_succ h)]; omega
def rsum (g : Grid) (i : Nat) : Int := (row g i).sum
def col (g : Grid) (j : Nat) : List Int := g.map fun r => at0 r j
def csum (g : Grid) (j : Nat) : Int := (col g j).sum
theorem rsum_addc {R C : Nat} {g : Grid} (h : Rect R C g) {a b : Nat} {z : Int} (ha : a < R) (hb : b < C) (i : Nat) : rsum (addc g a b z) i = rsum g i + (if i = a then z else 0) := by
  unfold rsum
  rw [row_addc (by rw [h.len]; exact ha)]
  by_cases e : i = a
  · subst e
    rw [if_pos rfl, if_pos rfl, sum_addr (by rw [h.rowLen ha]; exact hb)]
  · rw [if_neg e, if_neg e]; omega
theorem csum_addc : ∀ {C : Nat} {g : Grid} (h : ∀ r ∈ g, r.length = C) {a b : Nat} {z : Int} (ha : a < g.length) (hb : b < C) (j : Nat), csum (addc g a b z) j = csum g j + (if j = b then z else 0)
  | C, [], h, a, b, z, ha, hb, j => absurd ha (Nat.not_lt_zero _)
  | C, r :: g, h, 0, b, z, ha, hb, j => by
    show ((addr r b z :: g).map fun r => at0 r j).sum = ((r :: g).map fun r => at0 r j).sum + _
    simp only [List.map_cons, List.sum_cons]
    rw [at0_addr (by rw [h r List.mem_cons_self]; exact hb)]; omega
  | C, r :: g, h, a + 1, b, z, ha, hb, j => by
    have q := csum_addc (g := g) (fun r hr => h r (List.mem_cons_of_mem _ hr)) (a := a) (b := b) (z := z) (Nat.lt_of_succ_lt_succ ha) hb j
    show ((r :: addc g a b z).map fun r => at0 r j).sum = ((r :: g).map fun r => at0 r j).sum + _
    simp only [List.map_cons, List.sum_cons]
    unfold csum col at q
    rw [q]; omega
theorem csum_addc' {R C : Nat} {g : Grid} (h : Rect R C g) {a b : Nat} {z : Int} (ha : a < R) (hb : b < C) (j : Nat) : csum (addc g a b z) j = csum g j + (if j = b then z else 0) :=
  csum_addc h.row (by rw [h.len]; exact ha) hb j
/-! ### behind -/
section
variable {R C : Nat} {g : Grid} {a b c d : Nat}
theorem Rect.beh (h : Rect R C g) : Rect R C (beh g a b c d) := (((h.addc _ _ _).addc _ _ _).addc _ _ _).addc _ _ _
theorem cell_beh (h : Rect R C g) (ha : a < R) (hb : b < R) (hc : c < C) (hd : d < C) (i j : Nat) :
    cell (beh g a b c d) i j = cell g i j + (if i = a ∧ j = c then 1 else 0) + (if i = b ∧ j = d then 1 else 0) + (if i = a ∧ j = d then -1 else 0) + (if i = b ∧ j = c then -1 else 0) := by
  unfold GM.beh
  rw [cell_addc (((h.addc _ _ _).addc _ _ _).addc _ _ _) hb hc, cell_addc ((h.addc _ _ _).addc _ _ _) ha hd, cell_addc (h.addc _ _ _) hb hd, cell_addc h ha hc]
theorem rsum_beh (h : Rect R C g) (ha : a < R) (hb : b < R) (hc : c < C) (hd : d < C) (i : Nat) : rsum (beh g a b c d) i = rsum g i := by
  unfold GM.beh
  rw [rsum_addc (((h.addc _ _ _).addc _ _ _).addc _ _ _) hb hc, rsum_addc ((h.addc _ _ _).addc _ _ _) ha hd, rsum_addc (h.addc _ _ _) hb hd, rsum_addc h ha hc]
  by_cases e1 : i = a <;> by_cases e2 : i = b <;> simp [e1, e2] <;> omega
theorem csum_beh (h : Rect R C g) (ha : a < R) (hb : b < R) (hc : c < C) (hd : d < C) (i : Nat) : csum (beh g a b c d) i = csum g i := by
  unfold GM.beh
  rw [csum_addc' (((h.addc _ _ _).addc _ _ _).addc _ _ _) hb hc, csum_addc' ((h.addc _ _ _).addc _ _ _) ha hd, csum_addc' (h.addc _ _ _) hb hd, csum_addc' h ha hc]
  by_cases e1 : i = c <;> by_cases e2 : i = d <;> simp [e1, e2] <;> omega
theorem NN.beh (h : Rect R C g) (n : NN g) (ha : a < R) (hb : b < R) (hc : c < C) (hd : d < C) (hab : a ≠ b) (hcd : c ≠ d) (h1 : 1 ≤ cell g a d) (h2 : 1 ≤ cell g b c) : NN (beh g a b c d) := fun i j => by
  rw [cell_beh h ha hb hc hd]
  have q := n i j
  by_cases e3 : i = a ∧ j = d
  · obtain ⟨rfl, rfl⟩ := e3
    have x1 : ¬ (i = i ∧ j = c) := fun z => hcd z.2.symm
    have x2 : ¬ (i = b ∧ j = j) := fun z => hab z.1
    have x4 : ¬ (i = b ∧ j = c) := fun z => hab z.1
    rw [if_neg x1, if_neg x2, if_pos ⟨rfl, rfl⟩, if_neg x4]; omega
  · by_cases e4 : i = b ∧ j = c
    · obtain ⟨rfl, rfl⟩ := e4
      have x1 : ¬ (i = a ∧ j = j) := fun z => hab z.1.symm
      have x2 : ¬ (i = i ∧ j = d) := fun z => hcd z.2
      rw [if_neg x1, if_neg x2, if_neg e3, if_pos ⟨rfl, rfl⟩]; omega
    · rw [if_neg e3, if_neg e4]
      split <;> split <;> omega
end
/-! ### how far apart -/
def ex1 : List Int → List Int → Nat
  | x :: xs, y :: ys => (x - y).toNat + ex1 xs ys
  | _, _ => 0
def ex : Grid → Grid → Nat
  | r :: g, s :: h => ex1 r s + ex g h
  | _, _ => 0
theorem ex1_addr : ∀ {xs ys : List Int} {j : Nat} {z : Int}, j < xs.length → j < ys.length → ex1 (addr xs j z) ys + (at0 xs j - at0 ys j).toNat = ex1 xs ys + (at0 xs j + z - at0 ys j).toNat
  | [], _, _, _, h, _ => absurd h (Nat.not_lt_zero _)
  | _ :: _, [], _, _, _, h => absurd h (Nat.not_lt_zero _)
  | x :: xs, y :: ys, 0, z, _, _ => by
    show (x + z - y).toNat + ex1 xs ys + (x - y).toNat = (x - y).toNat + ex1 xs ys + (x + z - y).toNat
    omega
  | x :: xs, y :: ys, j + 1, z, h1, h2 => by
    have q := ex1_addr (xs := xs) (ys := ys) (j := j) (z := z) (Nat.lt_of_succ_lt_succ h1) (Nat.lt_of_succ_lt_succ h2)
    show (x - y).toNat + ex1 (addr xs j z) ys + (at0 xs j - at0 ys j).toNat = (x - y).toNat + ex1 xs ys + (at0 xs j + z - at0 ys j).toNat
    omega
theorem ex_addc0 : ∀ {g h : Grid} {i j : Nat} {z : Int}, i < g.length → i < h.length → j < (row g i).length → j < (row h i).length → ex (addc g i j z) h + (cell g i j - cell h i j).toNat = ex g h + (cell g i j + z - cell h i j).toNat
  | [], _, _, _, _, h, _, _, _ => absurd h (Nat.not_lt_zero _)
  | _ :: _, [], _, _, _, _, h, _, _ => absurd h (Nat.not_lt_zero _)
  | r :: g, s :: h, 0, j, z, _, _, h3, h4 => by
    have q := ex1_addr (xs := r) (ys := s) (j := j) (z := z) h3 h4
    show ex1 (addr r j z) s + ex g h + (at0 r j - at0 s j).toNat = ex1 r s + ex g h + (at0 r j + z - at0 s j).toNat
    omega
  | r :: g, s :: h, i + 1, j, z, h1, h2, h3, h4 => by
    have q := ex_addc0 (g := g) (h := h) (i := i) (j := j) (z := z) (Nat.lt_of_succ_lt_succ h1) (Nat.lt_of_succ_lt_succ h2) h3 h4
    show ex1 r s + ex (addc g i j z) h + (cell g i j - cell h i j).toNat = ex1 r s + ex g h + (cell g i j + z - cell h i j).toNat
    omega
section
variable {R C : Nat} {g h : Grid} {a b c d : Nat}
theorem ex_addc (G : Rect R C g) (H : Rect R C h) {i j : Nat} {z : Int} (hi : i < R) (hj : j < C) : ex (addc g i j z) h + (cell g i j - cell h i j).toNat = ex g h + (cell g i j + z - cell h i j).toNat :=
  ex_addc0 (by rw [G.len]; exact hi) (by rw [H.len]; exact hi) (by rw [G.rowLen hi]; exact hj) (by rw [H.rowLen hi]; exact hj)
theorem ex_beh (G : Rect R C g) (H : Rect R C h) (ha : a < R) (hb : b < R) (hc : c < C) (hd : d < C) (hab : a ≠ b) (hcd : c ≠ d) (h1 : cell g a c < cell h a c) (h2 : cell h a d < cell g a d) (h3 : cell h b c < cell g b c) : ex (beh g a b c d) h < ex g h := by
  have G1 := G.addc a c 1
  have G2 := G1.addc b d 1
  have G3 := G2.addc a d (-1)
  have e1 := ex_addc (z := 1) G H ha hc
  have e2 := ex_addc (z := 1) G1 H hb hd
  have e3 := ex_addc (z := -1) G2 H ha hd
  have e4 := ex_addc (z := -1) G3 H hb hc
  rw [cell_addc G ha hc, if_neg (fun z => hab z.1.symm)] at e2
  rw [cell_addc G1 hb hd, cell_addc G ha hc, if_neg (fun z => hcd z.2.symm), if_neg (fun z => hab z.1)] at e3
  rw [cell_addc G2 ha hd, cell_addc G1 hb hd, cell_addc G ha hc, if_neg (fun z => hab z.1.symm), if_neg (fun z => hcd z.2), if_neg (fun z => hab z.1.symm)] at e4
  unfold GM.beh
  omega
end
/-! ### sums -/
theorem sum_le : ∀ {xs ys : List Int}, xs.length = ys.length → (∀ j, j < xs.length → at0 ys j ≤ at0 xs j) → ys.sum ≤ xs.sum ∧ (ys.sum = xs.sum → xs = ys)
  | [], [], _, _ => ⟨Int.le_refl _, fun _ => rfl⟩
  | [], _ :: _, h, _ => by simp at h
  | _ :: _, [], h, _ => by simp at h
  | x :: xs, y :: ys, h, k => by
    obtain ⟨q1, q2⟩ := sum_le (xs := xs) (ys := ys) (by simpa using h) fun j hj => k (j + 1) (by simpa using hj)
    have q0 : y ≤ x := k 0 (by simp)
    simp only [List.sum_cons]
    refine ⟨by omega, fun e => ?_⟩
    rw [q2 (by omega), show x = y by omega]
theorem some_more {xs ys : List Int} (hl : xs.length = ys.length) (hs : xs.sum = ys.sum) {j : Nat} (hj : j < xs.length) (h : at0 xs j < at0 ys j) : ∃ k, k < xs.length ∧ at0 ys k < at0 xs k := by
  apply Classical.byContradiction
  intro n
  have q := (sum_le (xs := ys) (ys := xs) hl.symm fun k hk => by
    exact Int.not_lt.mp fun z => n ⟨k, by rw [hl]; exact hk, z⟩).2 hs
  rw [q] at h
  omega
theorem ext_rows {R C : Nat} {g h : Grid} (G : Rect R C g) (H : Rect R C h) (e : ∀ i, i < R → row g i = row h i) : g = h := by
  refine List.ext_getElem (by rw [G.len, H.len]) fun i h1 h2 => ?_
  have q := e i (by rw [← G.len]; exact h1)
  unfold row at q
  rw [List.getElem?_eq_getElem h1, List.getElem?_eq_getElem h2] at q
  exact q
/-- no entry is less, the rows' sums are alike: the same -/
theorem same_of {R C : Nat} {g h : Grid} (G : Rect R C g) (H : Rect R C h) (e : ∀ i, i < R → rsum g i = rsum h i) (k : ∀ i j, i < R → j < C → cell h i j ≤ cell g i j) : g = h :=
  ext_rows G H fun i hi => (sum_le (xs := row g i) (ys := row h i) (by rw [G.rowLen hi, H.rowLen hi]) fun j hj => k i j hi (by rw [← G.rowLen hi]; exact hj)).2 (e i hi).symm
theorem at_col {R C : Nat} {g : Grid} (G : Rect R C g) {i : Nat} (hi : i < R) (j : Nat) : at0 (col g j) i = cell g i j := by
  unfold at0 col cell row
  rw [List.getElem?_map, List.getElem?_eq_getElem (by rw [G.len]; exact hi)]
  rfl
theorem more_in_row {R C : Nat} {g h : Grid} (G : Rect R C g) (H : Rect R C h) {i j : Nat} (hi : i < R) (hj : j < C) (e : rsum g i = rsum h i) (l : cell g i j < cell h i j) : ∃ k, k < C ∧ cell h i k < cell g i k := by
  obtain ⟨k, h1, h2⟩ := some_more (xs := row g i) (ys := row h i) (by rw [G.rowLen hi, H.rowLen hi]) e (by rw [G.rowLen hi]; exact hj) l
  exact ⟨k, by rw [← G.rowLen hi]; exact h1, h2⟩
theorem more_in_col {R C : Nat} {g h : Grid} (G : Rect R C g) (H : Rect R C h) {i j : Nat} (hi : i < R) (hj : j < C) (e : csum g j = csum h j) (l : cell g i j < cell h i j) : ∃ k, k < R ∧ cell h k j < cell g k j := by
  have lg : (col g j).length = R := by unfold col; rw [List.length_map, G.len]
  have lh : (col h j).length = R := by unfold col; rw [List.length_map, H.len]
  obtain ⟨k, h1, h2⟩ := some_more (xs := col g j) (ys := col h j) (by rw [lg, lh]) e (by rw [lg]; exact hi) (by rw [at_col G hi, at_col H hi]; exact l)
  rw [lg] at h1
  rw [at_col G h1, at_col H h1] at h2
  exact ⟨k, h1, h2⟩
/-! ### the distance is at most the first grid's sum -/
def tot1 (r : List Int) : Nat := (r.map Int.toNat).sum
def tot (g : Grid) : Nat := (g.map tot1).sum
theorem ex1_le : ∀ {xs ys : List Int}, (∀ y ∈ ys, 0 ≤ y) → ex1 xs ys ≤ tot1 xs
  | [], _, _ => by simp [ex1, tot1]
  | _ :: _, [], _ => by simp [ex1]
  | x :: xs, y :: ys, h => by
    have q := ex1_le (xs := xs) (ys := ys) fun z hz => h z (List.mem_cons_of_mem _ hz)
    have q0 := h y List.mem_cons_self
    unfold tot1 at q ⊢
    simp only [ex1, List.map_cons, List.sum_cons]
    omega
theorem ex_le : ∀ {g h : Grid}, (∀ r ∈ h, ∀ y ∈ r, 0 ≤ y) → ex g h ≤ tot g
  | [], _, _ => by simp [ex, tot]
  | _ :: _, [], _ => by simp [ex]
  | r :: g, s :: h, k => by
    have q := ex_le (g := g) (h := h) fun r hr => k r (List.mem_cons_of_mem _ hr)
    have q0 := ex1_le (xs := r) (ys := s) (k s List.mem_cons_self)
    unfold tot at q ⊢
    simp only [ex, List.map_cons, List.sum_cons]
    omega
theorem NN.mem {g : Grid} (n : NN g) : ∀ r ∈ g, ∀ y ∈ r, 0 ≤ y := fun r hr y hy => by
  obtain ⟨i, hi, e⟩ := List.mem_iff_getElem.mp hr
  obtain ⟨j, hj, e2⟩ := List.mem_iff_getElem.mp hy
  have q := n i j
  unfold cell at0 row at q
  rw [List.getElem?_eq_getElem hi, e] at q
  simp only [Option.getD_some] at q
  rw [List.getElem?_eq_getElem hj, e2] at q
  exact q
theorem NN.of {g : Grid} (h : ∀ r ∈ g, ∀ y ∈ r, 0 ≤ y) : NN g := fun i j => by
  unfold cell at0 row
  cases e : g[i]? with
  | none => simp
  | some r =>
    simp only [Option.getD_some]
    cases e2 : r[j]? with
    | none => simp
    | some y => exact h r (List.mem_of_getElem? e) y (List.mem_of_getElem? e2)
end GM
/-! E1: the program's defs. -/
namespace K54
open PySem L2 PyProof.Rows DL
def top (i : Nat) : Stmt := PySem.Challenge.pw_addsup_k54_whole_swaps_join_all_grids.main.body.getD i (.Pass ⟨0, 0, 0, 0⟩)
/-- rounds enough: the entries of the first grid in all, two more -/
def rowSum : D → Nat
  | .list ds => ds.foldl (fun n d => match d with
    | .int i => n + i.toNat
    | _ => n) 0
  | _ => 0
def m_swaps_between : DL.Env → Nat := fun ρ => match (ρ[0]? : Option (Option Sl)) with
  | some (some (Sl.pub _ (PySem.PyData.list rows))) => rows.foldl (fun n r => n + rowSum r) 2
  | _ => 2
abbrev s_is_whole : Stmt := top 18
abbrev N_is_whole : List Str := ["value"]
theorem sc_is_whole : FnScope N_is_whole ["value"] (defScope s_is_whole) := ⟨rfl, rfl, rfl, by decide +kernel, rfl, by decide +kernel, by decide +kernel⟩
def g_is_whole : DL.Env → RS := sRet (fAnd (fOp1 (gIsi "int") (fVar 0)) (fNot (fOp1 (gIsi "bool") (fVar 0))))
def F_is_whole : List Sl → RF := fnF 1 (g_is_whole)
theorem b_is_whole {P : Program} {w : World} {K : PySem.W.Frag} {mg : Str → Option Value} {base : Heap} (B : Bl mg) {f : Addr} {cdv : Value} {A : Around} {outer : List PySem.Env} {s : Shared} {H : Hp} {E : XK} (c : Cn (fx P w K mg base N_is_whole "is_whole" s_is_whole f cdv A outer s H E) E 0) :
    DSs (fx P w K mg base N_is_whole "is_whole" s_is_whole f cdv A outer s H E) E (defBody s_is_whole) (g_is_whole) := by
  have nd := sc_is_whole.nd
  exact dss_one (ds_ret (de_and (d_isi B "int" "int" rfl B.int bt_int (de_var (pv 0))) (de_one (de_not (d_isi B "bool" "bool" rfl B.bool bt_bool (de_var (pv 0)))))))
theorem df_is_whole {P : Program} {w : World} {K : PySem.W.Frag} {mg : Str → Option Value} {base : Heap} (B : Bl mg) {f : Addr} {fd : FuncData} (F : FunD K "is_whole" "is_whole" (defArgs s_is_whole) (defBody s_is_whole) (defScope s_is_whole) [] [] f fd) (hm : mg "is_whole" = some (.ref f)) : Df P w K mg base "is_whole" s_is_whole 1 ["value"] (F_is_whole) :=
  Df.mk' F hm sc_is_whole rfl (fun _ _ _ _ _ _ us hl => match us, hl with | [_], _ => rfl) fun cdv A outer s H E c => b_is_whole B c

abbrev s_is_count : Stmt := top 20
abbrev N_is_count : List Str := ["value"]
theorem sc_is_count : FnScope N_is_count ["value"] (defScope s_is_count) := ⟨rfl, rfl, rfl, by decide +kernel, rfl, by decide +kernel, by decide +kernel⟩
def g_is_count : DL.Env → RS := sRet (fAnd (fCall 1 F_is_whole (fCons (fVar 0) (fNil))) (fOp2 gGe (fVar 0) (fC (.int 0))))
def F_is_count : List Sl → RF := fnF 1 (g_is_count)
theorem b_is_count {P : Program} {w : World} {K : PySem.W.Frag} {mg : Str → Option Value} {base : Heap} (B : Bl mg) (d_is_whole : Df P w K mg base "is_whole" s_is_whole 1 ["value"] F_is_whole) {f : Addr} {cdv : Value} {A : Around} {outer : List PySem.Env} {s : Shared} {H : Hp} {E : XK} (c : Cn (fx P w K mg base N_is_count "is_count" s_is_count f cdv A outer s H E) E 1) :
    DSs (fx P w K mg base N_is_count "is_count" s_is_count f cdv A outer s H E) E (defBody s_is_count) (g_is_count) := by
  have nd := sc_is_count.nd
  exact dss_one (ds_ret (de_and (de_call d_is_whole c (da_cons (de_var (pv 0)) (da_nil))) (de_one (d_ge (de_var (pv 0)) (de_int)))))
theorem df_is_count {P : Program} {w : World} {K : PySem.W.Frag} {mg : Str → Option Value} {base : Heap} (B : Bl mg) (d_is_whole : Df P w K mg base "is_whole" s_is_whole 1 ["value"] F_is_whole) {f : Addr} {fd : FuncData} (F : FunD K "is_count" "is_count" (defArgs s_is_count) (defBody s_is_count) (defScope s_is_count) [] [] f fd) (hm : mg "is_count" = some (.ref f)) : Df P w K mg base "is_count" s_is_count 2 ["value"] (F_is_count) :=
  Df.mk' F hm sc_is_count rfl (fun _ _ _ _ _ _ us hl => match us, hl with | [_], _ => rfl) fun cdv A outer s H E c => b_is_count B d_is_whole c

abbrev s_are_counts : Stmt := top 23
abbrev N_are_counts : List Str := ["value", "one"]
theorem sc_are_counts : FnScope N_are_counts ["value"] (defScope s_are_counts) := ⟨rfl, rfl, rfl, by decide +kernel, rfl, by decide +kernel, by decide +kernel⟩
def g_are_counts : DL.Env → RS := sSeq (sIf (fOr (fNot (fOp1 (gIsi "list") (fVar 0))) (fNot (fChain gLe gLe (fC (.int 1)) (bndA (fCons (fVar 0) (fNil)) gLen) (fC (.int 6))))) (sRet (fC (.bool false))) (.nx)) (sRet (fOp2 gEq (fLc (srcE (fVar 0) itemsL) (bName 1) (fNot (fCall 1 F_is_count (fCons (fVar 1) (fNil)))) (fVar 1) [1]) (bndA (fNil) gMkL)))
def F_are_counts : List Sl → RF := fnF 2 (g_are_counts)
theorem b_are_counts {P : Program} {w : World} {K : PySem.W.Frag} {mg : Str → Option Value} {base : Heap} (B : Bl mg) (d_is_count : Df P w K mg base "is_count" s_is_count 2 ["value"] F_is_count) {t_MOST_LINES : Tok} (h_MOST_LINES : mg "MOST_LINES" = some (.int 6 t_MOST_LINES)) {f : Addr} {cdv : Value} {A : Around} {outer : List PySem.Env} {s : Shared} {H : Hp} {E : XK} (c : Cn (fx P w K mg base N_are_counts "are_counts" s_are_counts f cdv A outer s H E) E 2) :
    DSs (fx P w K mg base N_are_counts "are_counts" s_are_counts f cdv A outer s H E) E (defBody s_are_counts) (g_are_counts) := by
  have nd := sc_are_counts.nd
  exact dss_cons (ds_if (dt_w (dw_or (dt_not (dt_val (d_isi B "list" "list" rfl B.list bt_list (de_var (pv 0))))) (dw_or1 (dt_not (t_le2 (de_int) (d_len B (da_cons (de_var (pv 0)) (da_nil))) (de_globI h_MOST_LINES)))))) (dss_one (ds_ret (de_bl))) (dss_nil))
    (dss_one (ds_ret (d_eq c.rm.units (de_lc (own := [("one", 1)]) c.cm nd (di_list (de_var (pv 0))) (blkOk_by (by rfl)) (gt_name) (by decide) (fun _ _ _ _ _ => pg_name nd (i := 1) rfl (by first | exact .inl rfl | exact .inr rfl)) (fun _ _ _ _ _ => dts_one (dt_not (dt_val (de_call d_is_count c.blk (da_cons (de_var (pv 1)) (da_nil)))))) (fun _ _ _ _ _ => de_var (pv 1))) (de_mkL (da_nil)))))
theorem df_are_counts {P : Program} {w : World} {K : PySem.W.Frag} {mg : Str → Option Value} {base : Heap} (B : Bl mg) (d_is_count : Df P w K mg base "is_count" s_is_count 2 ["value"] F_is_count) {t_MOST_LINES : Tok} (h_MOST_LINES : mg "MOST_LINES" = some (.int 6 t_MOST_LINES)) {f : Addr} {fd : FuncData} (F : FunD K "are_counts" "are_counts" (defArgs s_are_counts) (defBody s_are_counts) (defScope s_are_counts) [] [] f fd) (hm : mg "are_counts" = some (.ref f)) : Df P w K mg base "are_counts" s_are_counts 3 ["value"] (F_are_counts) :=
  Df.mk' F hm sc_are_counts rfl (fun _ _ _ _ _ _ us hl => match us, hl with | [_], _ => rfl) fun cdv A outer s H E c => b_are_counts B d_is_count h_MOST_LINES c

abbrev s_is_grid_of : Stmt := top 24
abbrev N_is_grid_of : List Str := ["value", "rows", "columns", "row", "one"]
theorem sc_is_grid_of : FnScope N_is_grid_of ["value", "rows", "columns"] (defScope s_is_grid_of) := ⟨rfl, rfl, rfl, by decide +kernel, rfl, by decide +kernel, by decide +kernel⟩
def g_is_grid_of : DL.Env → RS := sSeq (sIf (fOr (fNot (fOp1 (gIsi "list") (fVar 0))) (fOp2 gNe (bndA (fCons (fVar 0) (fNil)) gLen) (fVar 1))) (sRet (fC (.bool false))) (.nx)) (sSeq (sFor (srcE (fVar 0) itemsL) (bName 3) (sIf (fOr (fNot (fOp1 (gIsi "list") (fVar 3))) (fOr (fOp2 gNe (bndA (fCons (fVar 3) (fNil)) gLen) (fVar 2)) (fOp2 gNe (fLc (srcE (fVar 3) itemsL) (bName 4) (fNot (fCall 1 F_is_count (fCons (fVar 4) (fNil)))) (fVar 4) [4]) (bndA (fNil) gMkL)))) (sRet (fC (.bool false))) (.nx))) (sRet (fC (.bool true))))
def F_is_grid_of : List Sl → RF := fnF 5 (g_is_grid_of)
theorem b_is_grid_of {P : Program} {w : World} {K : PySem.W.Frag} {mg : Str → Option Value} {base : Heap} (B : Bl mg) (d_is_count : Df P w K mg base "is_count" s_is_count 2 ["value"] F_is_count) {f : Addr} {cdv : Value} {A : Around} {outer : List PySem.Env} {s : Shared} {H : Hp} {E : XK} (c : Cn (fx P w K mg base N_is_grid_of "is_grid_of" s_is_grid_of f cdv A outer s H E) E 2) :
    DSs (fx P w K mg base N_is_grid_of "is_grid_of" s_is_grid_of f cdv A outer s H E) E (defBody s_is_grid_of) (g_is_grid_of) := by
  have nd := sc_is_grid_of.nd
  exact dss_cons (ds_if (dt_w (dw_or (dt_not (dt_val (d_isi B "list" "list" rfl B.list bt_list (de_var (pv 0))))) (dw_or1 (t_ne c (d_len B (da_cons (de_var (pv 0)) (da_nil))) (de_var (pv 1)))))) (dss_one (ds_ret (de_bl))) (dss_nil))
    (dss_cons (ds_for (passes_of rfl) c.cm (di_list (de_var (pv 0))) (gt_name) (pg_name nd (i := 3) rfl (by first | exact .inl rfl | exact .inr rfl)) (dss_one (ds_if (dt_w (dw_or (dt_not (dt_val (d_isi B "list" "list" rfl B.list bt_list (de_var (pv 3))))) (dw_or (t_ne c (d_len B (da_cons (de_var (pv 3)) (da_nil))) (de_var (pv 2))) (dw_or1 (t_ne c (de_lc (own := [("one", 4)]) c.cm nd (di_list (de_var (pv 3))) (blkOk_by (by rfl)) (gt_name) (by decide) (fun _ _ _ _ _ => pg_name nd (i := 4) rfl (by first | exact .inl rfl | exact .inr rfl)) (fun _ _ _ _ _ => dts_one (dt_not (dt_val (de_call d_is_count c.blk (da_cons (de_var (pv 4)) (da_nil)))))) (fun _ _ _ _ _ => de_var (pv 4))) (de_mkL (da_nil))))))) (dss_one (ds_ret (de_bl))) (dss_nil))))
    (dss_one (ds_ret (de_bl))))
theorem df_is_grid_of {P : Program} {w : World} {K : PySem.W.Frag} {mg : Str → Option Value} {base : Heap} (B : Bl mg) (d_is_count : Df P w K mg base "is_count" s_is_count 2 ["value"] F_is_count) {f : Addr} {fd : FuncData} (F : FunD K "is_grid_of" "is_grid_of" (defArgs s_is_grid_of) (defBody s_is_grid_of) (defScope s_is_grid_of) [] [] f fd) (hm : mg "is_grid_of" = some (.ref f)) : Df P w K mg base "is_grid_of" s_is_grid_of 3 ["value", "rows", "columns"] (F_is_grid_of) :=
  Df.mk' F hm sc_is_grid_of rfl (fun _ _ _ _ _ _ us hl => match us, hl with | [_, _, _], _ => rfl) fun cdv A outer s H E c => b_is_grid_of B d_is_count c

abbrev s_is_any_grid : Stmt := top 25
abbrev N_is_any_grid : List Str := ["value"]
theorem sc_is_any_grid : FnScope N_is_any_grid ["value"] (defScope s_is_any_grid) := ⟨rfl, rfl, rfl, by decide +kernel, rfl, by decide +kernel, by decide +kernel⟩
def g_is_any_grid : DL.Env → RS := sSeq (sIf (fOr (fNot (fOp1 (gIsi "list") (fVar 0))) (fOr (fNot (fChain gLe gLe (fC (.int 1)) (bndA (fCons (fVar 0) (fNil)) gLen) (fC (.int 6)))) (fNot (fCall 1 F_are_counts (fCons (fOp2 gIx (fVar 0) (fC (.int 0))) (fNil)))))) (sRet (fC (.bool false))) (.nx)) (sRet (fCall 3 F_is_grid_of (fCons (fVar 0) (fCons (bndA (fCons (fVar 0) (fNil)) gLen) (fCons (bndA (fCons (fOp2 gIx (fVar 0) (fC (.int 0))) (fNil)) gLen) (fNil))))))
def F_is_any_grid : List Sl → RF := fnF 1 (g_is_any_grid)
theorem b_is_any_grid {P : Program} {w : World} {K : PySem.W.Frag} {mg : Str → Option Value} {base : Heap} (B : Bl mg) (d_are_counts : Df P w K mg base "are_counts" s_are_counts 3 ["value"] F_are_counts) (d_is_grid_of : Df P w K mg base "is_grid_of" s_is_grid_of 3 ["value", "rows", "columns"] F_is_grid_of) {t_MOST_LINES : Tok} (h_MOST_LINES : mg "MOST_LINES" = some (.int 6 t_MOST_LINES)) {f : Addr} {cdv : Value} {A : Around} {outer : List PySem.Env} {s : Shared} {H : Hp} {E : XK} (c : Cn (fx P w K mg base N_is_any_grid "is_any_grid" s_is_any_grid f cdv A outer s H E) E 3) :
    DSs (fx P w K mg base N_is_any_grid "is_any_grid" s_is_any_grid f cdv A outer s H E) E (defBody s_is_any_grid) (g_is_any_grid) := by
  have nd := sc_is_any_grid.nd
  exact dss_cons (ds_if (dt_w (dw_or (dt_not (dt_val (d_isi B "list" "list" rfl B.list bt_list (de_var (pv 0))))) (dw_or (dt_not (t_le2 (de_int) (d_len B (da_cons (de_var (pv 0)) (da_nil))) (de_globI h_MOST_LINES))) (dw_or1 (dt_not (dt_val (de_call d_are_counts c (da_cons (d_ix (de_var (pv 0)) (de_int)) (da_nil))))))))) (dss_one (ds_ret (de_bl))) (dss_nil))
    (dss_one (ds_ret (de_call d_is_grid_of c (da_cons (de_var (pv 0)) (da_cons (d_len B (da_cons (de_var (pv 0)) (da_nil))) (da_cons (d_len B (da_cons (d_ix (de_var (pv 0)) (de_int)) (da_nil))) (da_nil)))))))
theorem df_is_any_grid {P : Program} {w : World} {K : PySem.W.Frag} {mg : Str → Option Value} {base : Heap} (B : Bl mg) (d_are_counts : Df P w K mg base "are_counts" s_are_counts 3 ["value"] F_are_counts) (d_is_grid_of : Df P w K mg base "is_grid_of" s_is_grid_of 3 ["value", "rows", "columns"] F_is_grid_of) {t_MOST_LINES : Tok} (h_MOST_LINES : mg "MOST_LINES" = some (.int 6 t_MOST_LINES)) {f : Addr} {fd : FuncData} (F : FunD K "is_any_grid" "is_any_grid" (defArgs s_is_any_grid) (defBody s_is_any_grid) (defScope s_is_any_grid) [] [] f fd) (hm : mg "is_any_grid" = some (.ref f)) : Df P w K mg base "is_any_grid" s_is_any_grid 4 ["value"] (F_is_any_grid) :=
  Df.mk' F hm sc_is_any_grid rfl (fun _ _ _ _ _ _ us hl => match us, hl with | [_], _ => rfl) fun cdv A outer s H E c => b_is_any_grid B d_are_counts d_is_grid_of h_MOST_LINES c

abbrev s_check_grid : Stmt := top 26
abbrev N_check_grid : List Str := ["grid"]
theorem sc_check_grid : FnScope N_check_grid ["grid"] (defScope s_check_grid) := ⟨rfl, rfl, rfl, by decide +kernel, rfl, by decide +kernel, by decide +kernel⟩
def g_check_grid (ca : Str → Addr) : DL.Env → RS := sIf (fNot (fCall 1 F_is_any_grid (fCons (fVar 0) (fNil)))) (sRaise (ca "InvalidTable") (fCons (fVar 0) (fNil))) (.nx)
def F_check_grid (ca : Str → Addr) : List Sl → RF := fnF 1 (g_check_grid ca)
theorem b_check_grid {P : Program} {w : World} {K : PySem.W.Frag} {mg : Str → Option Value} {base : Heap} {ca : Str → Addr} (B : Bl mg) (d_is_any_grid : Df P w K mg base "is_any_grid" s_is_any_grid 4 ["value"] F_is_any_grid) (x_InvalidTable : DLX.ExT P K mg "InvalidTable" (ca "InvalidTable")) {f : Addr} {cdv : Value} {A : Around} {outer : List PySem.Env} {s : Shared} {H : Hp} {E : XK} (c : Cn (fx P w K mg base N_check_grid "check_grid" s_check_grid f cdv A outer s H E) E 4) :
    DSs (fx P w K mg base N_check_grid "check_grid" s_check_grid f cdv A outer s H E) E (defBody s_check_grid) (g_check_grid ca) := by
  have nd := sc_check_grid.nd
  exact dss_one (ds_if (dt_not (dt_val (de_call d_is_any_grid c (da_cons (de_var (pv 0)) (da_nil))))) (dss_one (ds_raise x_InvalidTable c (da_cons (de_var (pv 0)) (da_nil)))) (dss_nil))
theorem df_check_grid {P : Program} {w : World} {K : PySem.W.Frag} {mg : Str → Option Value} {base : Heap} {ca : Str → Addr} (B : Bl mg) (d_is_any_grid : Df P w K mg base "is_any_grid" s_is_any_grid 4 ["value"] F_is_any_grid) (x_InvalidTable : DLX.ExT P K mg "InvalidTable" (ca "InvalidTable")) {f : Addr} {fd : FuncData} (F : FunD K "check_grid" "check_grid" (defArgs s_check_grid) (defBody s_check_grid) (defScope s_check_grid) [] [] f fd) (hm : mg "check_grid" = some (.ref f)) : Df P w K mg base "check_grid" s_check_grid 5 ["grid"] (F_check_grid ca) :=
  Df.mk' F hm sc_check_grid rfl (fun _ _ _ _ _ _ us hl => match us, hl with | [_], _ => rfl) fun cdv A outer s H E c => b_check_grid B d_is_any_grid x_InvalidTable c

abbrev s_sums_of : Stmt := top 27
abbrev N_sums_of : List Str := ["grid", "row", "at"]
theorem sc_sums_of : FnScope N_sums_of ["grid"] (defScope s_sums_of) := ⟨rfl, rfl, rfl, by decide +kernel, rfl, by decide +kernel, by decide +kernel⟩
def g_sums_of : DL.Env → RS := sRet (bndA (fCons (fLc (srcE (fVar 0) itemsL) (bName 1) (fC (.bool true)) (bndA (fCons (fVar 1) (fNil)) gSum) [1]) (fCons (fLc (srcA (fCons (bndA (fCons (fOp2 gIx (fVar 0) (fC (.int 0))) (fNil)) gLen) (fNil)) kRng1) (bName 2) (fC (.bool true)) (bndA (fCons (fLc (srcE (fVar 0) itemsL) (bName 1) (fC (.bool true)) (fOp2 gIx (fVar 1) (fVar 2)) [1]) (fNil)) gSum) [2]) (fNil))) gMkT)
def F_sums_of : List Sl → RF := fnF 3 (g_sums_of)
theorem b_sums_of {P : Program} {w : World} {K : PySem.W.Frag} {mg : Str → Option Value} {base : Heap} (B : Bl mg) {f : Addr} {cdv : Value} {A : Around} {outer : List PySem.Env} {s : Shared} {H : Hp} {E : XK} (c : Cn (fx P w K mg base N_sums_of "sums_of" s_sums_of f cdv A outer s H E) E 0) :
    DSs (fx P w K mg base N_sums_of "sums_of" s_sums_of f cdv A outer s H E) E (defBody s_sums_of) (g_sums_of) := by
  have nd := sc_sums_of.nd
  exact dss_one (ds_ret (de_mkT (da_cons (de_lc (own := [("row", 1)]) c.cm nd (di_list (de_var (pv 0))) (blkOk_by (by rfl)) (gt_name) (by decide) (fun _ _ _ _ _ => pg_name nd (i := 1) rfl (by first | exact .inl rfl | exact .inr rfl)) (fun _ _ _ _ _ => dts_nil) (fun _ _ _ _ _ => d_sum c.blk B (da_cons (de_var (pv 1)) (da_nil)))) (da_cons (de_lc (own := [("at", 2)]) c.cm nd (di_rng1 rfl B.range (da_cons (d_len B (da_cons (d_ix (de_var (pv 0)) (de_int)) (da_nil))) (da_nil))) (blkOk_by (by rfl)) (gt_name) (by decide) (fun _ _ _ _ _ => pg_name nd (i := 2) rfl (by first | exact .inl rfl | exact .inr rfl)) (fun _ _ _ _ _ => dts_nil) (fun _ _ _ _ _ => d_sum c.blk B (da_cons (de_lc (own := [("row", 1)]) c.blk.cm nd (di_list (de_var (pv 0))) (blkOk_by (by rfl)) (gt_name) (by decide) (fun _ _ _ _ _ => pg_name nd (i := 1) rfl (by first | exact .inl rfl | exact .inr rfl)) (fun _ _ _ _ _ => dts_nil) (fun _ _ _ _ _ => d_ix (de_var (pv 1)) (de_var (pv 2)))) (da_nil)))) (da_nil)))))
theorem df_sums_of {P : Program} {w : World} {K : PySem.W.Frag} {mg : Str → Option Value} {base : Heap} (B : Bl mg) {f : Addr} {fd : FuncData} (F : FunD K "sums_of" "sums_of" (defArgs s_sums_of) (defBody s_sums_of) (defScope s_sums_of) [] [] f fd) (hm : mg "sums_of" = some (.ref f)) : Df P w K mg base "sums_of" s_sums_of 1 ["grid"] (F_sums_of) :=
  Df.mk' F hm sc_sums_of rfl (fun _ _ _ _ _ _ us hl => match us, hl with | [_], _ => rfl) fun cdv A outer s H E c => b_sums_of B c

abbrev s_is_swap : Stmt := top 28
abbrev N_is_swap : List Str := ["grid", "value", "at", "row", "other_row", "column", "other_column"]
theorem sc_is_swap : FnScope N_is_swap ["grid", "value"] (defScope s_is_swap) := ⟨rfl, rfl, rfl, by decide +kernel, rfl, by decide +kernel, by decide +kernel⟩
def g_is_swap : DL.Env → RS := sSeq (sIf (fOr (fNot (fOp1 (gIsi "tuple") (fVar 1))) (fOr (fOp2 gNe (bndA (fCons (fVar 1) (fNil)) gLen) (fC (.int 4))) (fOp2 gNe (fLc (srcE (fVar 1) itemsT) (bName 2) (fNot (fCall 1 F_is_count (fCons (fVar 2) (fNil)))) (fVar 2) [2]) (bndA (fNil) gMkL)))) (sRet (fC (.bool false))) (.nx)) (sSeq (sBind (bTup [bName 3, bName 4, bName 5, bName 6]) (fVar 1)) (sSeq (sIf (fOr (fOp2 gGe (bndA (fCons (fVar 3) (fCons (fVar 4) (fNil))) gMax2) (bndA (fCons (fVar 0) (fNil)) gLen)) (fOp2 gGe (bndA (fCons (fVar 5) (fCons (fVar 6) (fNil))) gMax2) (bndA (fCons (fOp2 gIx (fVar 0) (fC (.int 0))) (fNil)) gLen))) (sRet (fC (.bool false))) (.nx)) (sSeq (sIf (fOr (fOp2 gEq (fVar 3) (fVar 4)) (fOp2 gEq (fVar 5) (fVar 6))) (sRet (fC (.bool false))) (.nx)) (sRet (fAnd (fOp2 gGe (fOp2 gIx (fOp2 gIx (fVar 0) (fVar 3)) (fVar 6)) (fC (.int 1))) (fOp2 gGe (fOp2 gIx (fOp2 gIx (fVar 0) (fVar 4)) (fVar 5)) (fC (.int 1))))))))
def F_is_swap : List Sl → RF := fnF 7 (g_is_swap)
theorem b_is_swap {P : Program} {w : World} {K : PySem.W.Frag} {mg : Str → Option Value} {base : Heap} (B : Bl mg) (d_is_count : Df P w K mg base "is_count" s_is_count 2 ["value"] F_is_count) {f : Addr} {cdv : Value} {A : Around} {outer : List PySem.Env} {s : Shared} {H : Hp} {E : XK} (c : Cn (fx P w K mg base N_is_swap "is_swap" s_is_swap f cdv A outer s H E) E 2) :
    DSs (fx P w K mg base N_is_swap "is_swap" s_is_swap f cdv A outer s H E) E (defBody s_is_swap) (g_is_swap) := by
  have nd := sc_is_swap.nd
  exact dss_cons (ds_if (dt_w (dw_or (dt_not (dt_val (d_isi B "tuple" "tuple" rfl B.tuple bt_tuple (de_var (pv 1))))) (dw_or (t_ne c (d_len B (da_cons (de_var (pv 1)) (da_nil))) (de_int)) (dw_or1 (t_ne c (de_lc (own := [("at", 2)]) c.cm nd (di_tup (de_var (pv 1))) (blkOk_by (by rfl)) (gt_name) (by decide) (fun _ _ _ _ _ => pg_name nd (i := 2) rfl (by first | exact .inl rfl | exact .inr rfl)) (fun _ _ _ _ _ => dts_one (dt_not (dt_val (de_call d_is_count c.blk (da_cons (de_var (pv 2)) (da_nil)))))) (fun _ _ _ _ _ => de_var (pv 2))) (de_mkL (da_nil))))))) (dss_one (ds_ret (de_bl))) (dss_nil))
    (dss_cons (ds_asg (gt_tup (gts_cons (gt_name) (gts_cons (gt_name) (gts_cons (gt_name) (gts_cons (gt_name) (gts_nil)))))) (pg_tup c.cm (pgs_cons (pg_name nd (i := 3) rfl (by first | exact .inl rfl | exact .inr rfl)) (pgs_cons (pg_name nd (i := 4) rfl (by first | exact .inl rfl | exact .inr rfl)) (pgs_cons (pg_name nd (i := 5) rfl (by first | exact .inl rfl | exact .inr rfl)) (pgs_cons (pg_name nd (i := 6) rfl (by first | exact .inl rfl | exact .inr rfl)) (pgs_nil)))))) (de_var (pv 1)))
    (dss_cons (ds_if (dt_w (dw_or (t_ge (d_max2 c B (da_cons (de_var (pv 3)) (da_cons (de_var (pv 4)) (da_nil)))) (d_len B (da_cons (de_var (pv 0)) (da_nil)))) (dw_or1 (t_ge (d_max2 c B (da_cons (de_var (pv 5)) (da_cons (de_var (pv 6)) (da_nil)))) (d_len B (da_cons (d_ix (de_var (pv 0)) (de_int)) (da_nil))))))) (dss_one (ds_ret (de_bl))) (dss_nil))
    (dss_cons (ds_if (dt_w (dw_or (t_eq c (de_var (pv 3)) (de_var (pv 4))) (dw_or1 (t_eq c (de_var (pv 5)) (de_var (pv 6)))))) (dss_one (ds_ret (de_bl))) (dss_nil))
    (dss_one (ds_ret (de_and (d_ge (d_ix (d_ix (de_var (pv 0)) (de_var (pv 3))) (de_var (pv 6))) (de_int)) (de_one (d_ge (d_ix (d_ix (de_var (pv 0)) (de_var (pv 4))) (de_var (pv 5))) (de_int)))))))))
theorem df_is_swap {P : Program} {w : World} {K : PySem.W.Frag} {mg : Str → Option Value} {base : Heap} (B : Bl mg) (d_is_count : Df P w K mg base "is_count" s_is_count 2 ["value"] F_is_count) {f : Addr} {fd : FuncData} (F : FunD K "is_swap" "is_swap" (defArgs s_is_swap) (defBody s_is_swap) (defScope s_is_swap) [] [] f fd) (hm : mg "is_swap" = some (.ref f)) : Df P w K mg base "is_swap" s_is_swap 3 ["grid", "value"] (F_is_swap) :=
  Df.mk' F hm sc_is_swap rfl (fun _ _ _ _ _ _ us hl => match us, hl with | [_, _], _ => rfl) fun cdv A outer s H E c => b_is_swap B d_is_count c

abbrev s_behind : Stmt := top 29
abbrev N_behind : List Str := ["grid", "swap", "row", "other_row", "column", "other_column", "told", "line", "place", "step"]
theorem sc_behind : FnScope N_behind ["grid", "swap"] (defScope s_behind) := ⟨rfl, rfl, rfl, by decide +kernel, rfl, by decide +kernel, by decide +kernel⟩
def g_behind : DL.Env → RS := sSeq (sBind (bTup [bName 2, bName 3, bName 4, bName 5]) (fVar 1)) (sSeq (sCopy 6 7 (fVar 0)) (sSeq (sFor (srcE (bndA (fCons (bndA (fCons (fVar 2) (fCons (fVar 4) (fCons (fC (.int 1)) (fNil)))) gMkT) (fCons (bndA (fCons (fVar 3) (fCons (fVar 5) (fCons (fC (.int 1)) (fNil)))) gMkT) (fCons (bndA (fCons (fVar 2) (fCons (fVar 5) (fCons (fOp1 gNeg (fC (.int 1))) (fNil)))) gMkT) (fNil)))) gMkT) itemsT) (bTup [bName 7, bName 8, bName 9]) (sSetN 6 7 8 (fOp2 gAdd (fIxN 6 7 8) (fVar 9)))) (sSeq (sSetN 6 3 4 (fOp2 gSub (fIxN 6 3 4) (fC (.int 1)))) (sRetN 6))))
def F_behind : List Sl → RF := fnF 10 (g_behind)
theorem b_behind {P : Program} {w : World} {K : PySem.W.Frag} {mg : Str → Option Value} {base : Heap} (B : Bl mg) {f : Addr} {cdv : Value} {A : Around} {outer : List PySem.Env} {s : Shared} {H : Hp} {E : XK} (c : Cn (fx P w K mg base N_behind "behind" s_behind f cdv A outer s H E) E 0) :
    DSs (fx P w K mg base N_behind "behind" s_behind f cdv A outer s H E) E (defBody s_behind) (g_behind) := by
  have nd := sc_behind.nd
  exact dss_cons (ds_asg (gt_tup (gts_cons (gt_name) (gts_cons (gt_name) (gts_cons (gt_name) (gts_cons (gt_name) (gts_nil)))))) (pg_tup c.cm (pgs_cons (pg_name nd (i := 2) rfl (by first | exact .inl rfl | exact .inr rfl)) (pgs_cons (pg_name nd (i := 3) rfl (by first | exact .inl rfl | exact .inr rfl)) (pgs_cons (pg_name nd (i := 4) rfl (by first | exact .inl rfl | exact .inr rfl)) (pgs_cons (pg_name nd (i := 5) rfl (by first | exact .inl rfl | exact .inr rfl)) (pgs_nil)))))) (de_var (pv 1)))
    (dss_cons (ds_copy c B nd (i := 6) rfl (de_var (pv 0)) (blkOk_by (by rfl)) (fun _ _ _ _ _ => pg_name nd (i := 7) rfl (by first | exact .inl rfl | exact .inr rfl)) (fun _ _ _ _ _ => pv 7) (fun _ _ _ _ _ => by rfl) (fun _ _ _ _ _ => by rfl) rfl)
    (dss_cons (ds_for (passes_of rfl) c.cm (di_tup (de_mkT (da_cons (de_mkT (da_cons (de_var (pv 2)) (da_cons (de_var (pv 4)) (da_cons (de_int) (da_nil))))) (da_cons (de_mkT (da_cons (de_var (pv 3)) (da_cons (de_var (pv 5)) (da_cons (de_int) (da_nil))))) (da_cons (de_mkT (da_cons (de_var (pv 2)) (da_cons (de_var (pv 5)) (da_cons (d_neg (de_int)) (da_nil))))) (da_nil)))))) (gt_tup (gts_cons (gt_name) (gts_cons (gt_name) (gts_cons (gt_name) (gts_nil))))) (pg_tup c.cm (pgs_cons (pg_name nd (i := 7) rfl (by first | exact .inl rfl | exact .inr rfl)) (pgs_cons (pg_name nd (i := 8) rfl (by first | exact .inl rfl | exact .inr rfl)) (pgs_cons (pg_name nd (i := 9) rfl (by first | exact .inl rfl | exact .inr rfl)) (pgs_nil))))) (dss_one (ds_setN (pv 6) (pv 7) (pv 8) (d_add (de_ixN (pv 6) (pv 7) (pv 8)) (de_var (pv 9))))))
    (dss_cons (ds_setN (pv 6) (pv 3) (pv 4) (d_sub (de_ixN (pv 6) (pv 3) (pv 4)) (de_int)))
    (dss_one (ds_retN2 (pv 6))))))
theorem df_behind {P : Program} {w : World} {K : PySem.W.Frag} {mg : Str → Option Value} {base : Heap} (B : Bl mg) {f : Addr} {fd : FuncData} (F : FunD K "behind" "behind" (defArgs s_behind) (defBody s_behind) (defScope s_behind) [] [] f fd) (hm : mg "behind" = some (.ref f)) : Df P w K mg base "behind" s_behind 1 ["grid", "swap"] (F_behind) :=
  Df.mk' F hm sc_behind rfl (fun _ _ _ _ _ _ us hl => match us, hl with | [_, _], _ => rfl) fun cdv A outer s H E c => b_behind B c

abbrev s_swapped : Stmt := top 30
abbrev N_swapped : List Str := ["grid", "swap"]
theorem sc_swapped : FnScope N_swapped ["grid", "swap"] (defScope s_swapped) := ⟨rfl, rfl, rfl, by decide +kernel, rfl, by decide +kernel, by decide +kernel⟩
def g_swapped (ca : Str → Addr) : DL.Env → RS := sSeq (sDrop (fCall 1 (F_check_grid ca) (fCons (fVar 0) (fNil)))) (sSeq (sIf (fNot (fCall 2 F_is_swap (fCons (fVar 0) (fCons (fVar 1) (fNil))))) (sRaise (ca "InvalidEdit") (fCons (fVar 1) (fNil))) (.nx)) (sRet (fCall 2 F_behind (fCons (fVar 0) (fCons (fVar 1) (fNil))))))
def F_swapped (ca : Str → Addr) : List Sl → RF := fnF 2 (g_swapped ca)
theorem b_swapped {P : Program} {w : World} {K : PySem.W.Frag} {mg : Str → Option Value} {base : Heap} {ca : Str → Addr} (B : Bl mg) (d_check_grid : Df P w K mg base "check_grid" s_check_grid 5 ["grid"] (F_check_grid ca)) (d_is_swap : Df P w K mg base "is_swap" s_is_swap 3 ["grid", "value"] F_is_swap) (d_behind : Df P w K mg base "behind" s_behind 1 ["grid", "swap"] F_behind) (x_InvalidEdit : DLX.ExT P K mg "InvalidEdit" (ca "InvalidEdit")) {f : Addr} {cdv : Value} {A : Around} {outer : List PySem.Env} {s : Shared} {H : Hp} {E : XK} (c : Cn (fx P w K mg base N_swapped "swapped" s_swapped f cdv A outer s H E) E 5) :
    DSs (fx P w K mg base N_swapped "swapped" s_swapped f cdv A outer s H E) E (defBody s_swapped) (g_swapped ca) := by
  have nd := sc_swapped.nd
  exact dss_cons (ds_drop (de_call d_check_grid c (da_cons (de_var (pv 0)) (da_nil))))
    (dss_cons (ds_if (dt_not (dt_val (de_call d_is_swap c (da_cons (de_var (pv 0)) (da_cons (de_var (pv 1)) (da_nil)))))) (dss_one (ds_raise x_InvalidEdit c (da_cons (de_var (pv 1)) (da_nil)))) (dss_nil))
    (dss_one (ds_ret (de_call d_behind c (da_cons (de_var (pv 0)) (da_cons (de_var (pv 1)) (da_nil)))))))
theorem df_swapped {P : Program} {w : World} {K : PySem.W.Frag} {mg : Str → Option Value} {base : Heap} {ca : Str → Addr} (B : Bl mg) (d_check_grid : Df P w K mg base "check_grid" s_check_grid 5 ["grid"] (F_check_grid ca)) (d_is_swap : Df P w K mg base "is_swap" s_is_swap 3 ["grid", "value"] F_is_swap) (d_behind : Df P w K mg base "behind" s_behind 1 ["grid", "swap"] F_behind) (x_InvalidEdit : DLX.ExT P K mg "InvalidEdit" (ca "InvalidEdit")) {f : Addr} {fd : FuncData} (F : FunD K "swapped" "swapped" (defArgs s_swapped) (defBody s_swapped) (defScope s_swapped) [] [] f fd) (hm : mg "swapped" = some (.ref f)) : Df P w K mg base "swapped" s_swapped 6 ["grid", "swap"] (F_swapped ca) :=
  Df.mk' F hm sc_swapped rfl (fun _ _ _ _ _ _ us hl => match us, hl with | [_, _], _ => rfl) fun cdv A outer s H E c => b_swapped B d_check_grid d_is_swap d_behind x_InvalidEdit c

abbrev s_next_swap : Stmt := top 31
abbrev N_next_swap : List Str := ["grid", "other_grid", "row", "line", "column", "number", "other_column", "at", "one", "other_row"]
theorem sc_next_swap : FnScope N_next_swap ["grid", "other_grid"] (defScope s_next_swap) := ⟨rfl, rfl, rfl, by decide +kernel, rfl, by decide +kernel, by decide +kernel⟩
def g_next_swap : DL.Env → RS := sSeq (sFor (srcA (fCons (fVar 0) (fNil)) kEnum) (bTup [bName 2, bName 3]) (sFor (srcA (fCons (fVar 3) (fNil)) kEnum) (bTup [bName 4, bName 5]) (sIf (fOp2 gLt (fVar 5) (fOp2 gIx (fOp2 gIx (fVar 1) (fVar 2)) (fVar 4))) (sSeq (sPut 6 (fOp2 gIx (fLc (srcA (fCons (fVar 3) (fNil)) kEnum) (bTup [bName 7, bName 8]) (fOp2 gGt (fVar 8) (fOp2 gIx (fOp2 gIx (fVar 1) (fVar 2)) (fVar 7))) (fVar 7) [7, 8]) (fC (.int 0)))) (sSeq (sPut 9 (fOp2 gIx (fLc (srcA (fCons (fVar 0) (fNil)) kEnum) (bTup [bName 7, bName 8]) (fOp2 gGt (fOp2 gIx (fVar 8) (fVar 4)) (fOp2 gIx (fOp2 gIx (fVar 1) (fVar 7)) (fVar 4))) (fVar 7) [7, 8]) (fC (.int 0)))) (sRet (bndA (fCons (fVar 2) (fCons (fVar 9) (fCons (fVar 4) (fCons (fVar 6) (fNil))))) gMkT)))) (.nx)))) (sRet (fC .none))
def F_next_swap : List Sl → RF := fnF 10 (g_next_swap)
theorem b_next_swap {P : Program} {w : World} {K : PySem.W.Frag} {mg : Str → Option Value} {base : Heap} (B : Bl mg) {f : Addr} {cdv : Value} {A : Around} {outer : List PySem.Env} {s : Shared} {H : Hp} {E : XK} (c : Cn (fx P w K mg base N_next_swap "next_swap" s_next_swap f cdv A outer s H E) E 0) :
    DSs (fx P w K mg base N_next_swap "next_swap" s_next_swap f cdv A outer s H E) E (defBody s_next_swap) (g_next_swap) := by
  have nd := sc_next_swap.nd
  exact dss_cons (ds_for (passes_of rfl) c.cm (di_enum rfl B.enum (da_cons (de_var (pv 0)) (da_nil))) (gt_tup (gts_cons (gt_name) (gts_cons (gt_name) (gts_nil)))) (pg_tup c.cm (pgs_cons (pg_name nd (i := 2) rfl (by first | exact .inl rfl | exact .inr rfl)) (pgs_cons (pg_name nd (i := 3) rfl (by first | exact .inl rfl | exact .inr rfl)) (pgs_nil)))) (dss_one (ds_for (passes_of rfl) c.cm (di_enum rfl B.enum (da_cons (de_var (pv 3)) (da_nil))) (gt_tup (gts_cons (gt_name) (gts_cons (gt_name) (gts_nil)))) (pg_tup c.cm (pgs_cons (pg_name nd (i := 4) rfl (by first | exact .inl rfl | exact .inr rfl)) (pgs_cons (pg_name nd (i := 5) rfl (by first | exact .inl rfl | exact .inr rfl)) (pgs_nil)))) (dss_one (ds_if (t_lt (de_var (pv 5)) (d_ix (d_ix (de_var (pv 1)) (de_var (pv 2))) (de_var (pv 4)))) (dss_cons (ds_put (i := 6) nd rfl (by first | exact .inl rfl | exact .inr rfl) (d_ix (de_lc (own := [("at", 7), ("one", 8)]) c.cm nd (di_enum rfl B.enum (da_cons (de_var (pv 3)) (da_nil))) (blkOk_by (by rfl)) (gt_tup (gts_cons (gt_name) (gts_cons (gt_name) (gts_nil)))) (by decide) (fun _ _ _ _ _ => pg_tup c.blk.cm (pgs_cons (pg_name nd (i := 7) rfl (by first | exact .inl rfl | exact .inr rfl)) (pgs_cons (pg_name nd (i := 8) rfl (by first | exact .inl rfl | exact .inr rfl)) (pgs_nil)))) (fun _ _ _ _ _ => dts_one (t_gt (de_var (pv 8)) (d_ix (d_ix (de_var (pv 1)) (de_var (pv 2))) (de_var (pv 7))))) (fun _ _ _ _ _ => de_var (pv 7))) (de_int)))
    (dss_cons (ds_put (i := 9) nd rfl (by first | exact .inl rfl | exact .inr rfl) (d_ix (de_lc (own := [("at", 7), ("one", 8)]) c.cm nd (di_enum rfl B.enum (da_cons (de_var (pv 0)) (da_nil))) (blkOk_by (by rfl)) (gt_tup (gts_cons (gt_name) (gts_cons (gt_name) (gts_nil)))) (by decide) (fun _ _ _ _ _ => pg_tup c.blk.cm (pgs_cons (pg_name nd (i := 7) rfl (by first | exact .inl rfl | exact .inr rfl)) (pgs_cons (pg_name nd (i := 8) rfl (by first | exact .inl rfl | exact .inr rfl)) (pgs_nil)))) (fun _ _ _ _ _ => dts_one (t_gt (d_ix (de_var (pv 8)) (de_var (pv 4))) (d_ix (d_ix (de_var (pv 1)) (de_var (pv 7))) (de_var (pv 4))))) (fun _ _ _ _ _ => de_var (pv 7))) (de_int)))
    (dss_one (ds_ret (de_mkT (da_cons (de_var (pv 2)) (da_cons (de_var (pv 9)) (da_cons (de_var (pv 4)) (da_cons (de_var (pv 6)) (da_nil)))))))))) (dss_nil))))))
    (dss_one (ds_ret (de_non)))
theorem df_next_swap {P : Program} {w : World} {K : PySem.W.Frag} {mg : Str → Option Value} {base : Heap} (B : Bl mg) {f : Addr} {fd : FuncData} (F : FunD K "next_swap" "next_swap" (defArgs s_next_swap) (defBody s_next_swap) (defScope s_next_swap) [] [] f fd) (hm : mg "next_swap" = some (.ref f)) : Df P w K mg base "next_swap" s_next_swap 1 ["grid", "other_grid"] (F_next_swap) :=
  Df.mk' F hm sc_next_swap rfl (fun _ _ _ _ _ _ us hl => match us, hl with | [_, _], _ => rfl) fun cdv A outer s H E c => b_next_swap B c

abbrev s_swaps_between : Stmt := top 32
abbrev N_swaps_between : List Str := ["grid", "other_grid", "swaps", "here", "swap"]
theorem sc_swaps_between : FnScope N_swaps_between ["grid", "other_grid"] (defScope s_swaps_between) := ⟨rfl, rfl, rfl, by decide +kernel, rfl, by decide +kernel, by decide +kernel⟩
def g_swaps_between (ca : Str → Addr) : DL.Env → RS := sSeq (sDrop (fCall 1 (F_check_grid ca) (fCons (fVar 0) (fNil)))) (sSeq (sDrop (fCall 1 (F_check_grid ca) (fCons (fVar 1) (fNil)))) (sSeq (sIf (fOp2 gNe (fCall 1 F_sums_of (fCons (fVar 0) (fNil))) (fCall 1 F_sums_of (fCons (fVar 1) (fNil)))) (sRet (fC .none)) (.nx)) (sSeq (sOwn 2 (bndA (fNil) gMkL)) (sSeq (sPut 3 (fVar 0)) (sSeq (sPut 4 (fCall 2 F_next_swap (fCons (fVar 3) (fCons (fVar 1) (fNil))))) (sSeq ((fun ρ => whGo (fOp2 gNotN (fVar 4) (fC .none)) (sSeq (sApp 2 (fVar 4)) (sSeq (sPut 3 (fCall 2 F_behind (fCons (fVar 3) (fCons (fVar 4) (fNil))))) (sPut 4 (fCall 2 F_next_swap (fCons (fVar 3) (fCons (fVar 1) (fNil))))))) (m_swaps_between ρ) ρ)) (sRetOwn 2)))))))
def F_swaps_between (ca : Str → Addr) : List Sl → RF := fnF 5 (g_swaps_between ca)
theorem b_swaps_between {P : Program} {w : World} {K : PySem.W.Frag} {mg : Str → Option Value} {base : Heap} {ca : Str → Addr} (B : Bl mg) (d_check_grid : Df P w K mg base "check_grid" s_check_grid 5 ["grid"] (F_check_grid ca)) (d_sums_of : Df P w K mg base "sums_of" s_sums_of 1 ["grid"] F_sums_of) (d_next_swap : Df P w K mg base "next_swap" s_next_swap 1 ["grid", "other_grid"] F_next_swap) (d_behind : Df P w K mg base "behind" s_behind 1 ["grid", "swap"] F_behind) {f : Addr} {cdv : Value} {A : Around} {outer : List PySem.Env} {s : Shared} {H : Hp} {E : XK} (c : Cn (fx P w K mg base N_swaps_between "swaps_between" s_swaps_between f cdv A outer s H E) E 5) :
    DSs (fx P w K mg base N_swaps_between "swaps_between" s_swaps_between f cdv A outer s H E) E (defBody s_swaps_between) (g_swaps_between ca) := by
  have nd := sc_swaps_between.nd
  exact dss_cons (ds_drop (de_call d_check_grid c (da_cons (de_var (pv 0)) (da_nil))))
    (dss_cons (ds_drop (de_call d_check_grid c (da_cons (de_var (pv 1)) (da_nil))))
    (dss_cons (ds_if (t_ne c (de_call d_sums_of c (da_cons (de_var (pv 0)) (da_nil))) (de_call d_sums_of c (da_cons (de_var (pv 1)) (da_nil)))) (dss_one (ds_ret (de_non))) (dss_nil))
    (dss_cons (ds_own (i := 2) nd rfl (by first | exact .inl rfl | exact .inr rfl) (de_mkL (da_nil)))
    (dss_cons (ds_put (i := 3) nd rfl (by first | exact .inl rfl | exact .inr rfl) (de_var (pv 0)))
    (dss_cons (ds_put (i := 4) nd rfl (by first | exact .inl rfl | exact .inr rfl) (de_call d_next_swap c (da_cons (de_var (pv 3)) (da_cons (de_var (pv 1)) (da_nil)))))
    (dss_cons (ds_while m_swaps_between (passes_of rfl) (t_isnot (de_var (pv 4)) (de_non)) (dss_cons (ds_app (fun _ h => pe_bm PySem.F.plainAttrs_list PySem.F.slot_list_append PySem.F.type_list_append mt_append (pv 2) (pa_cons h pa_nil)) (de_var (pv 4)))
    (dss_cons (ds_put (i := 3) nd rfl (by first | exact .inl rfl | exact .inr rfl) (de_call d_behind c (da_cons (de_var (pv 3)) (da_cons (de_var (pv 4)) (da_nil)))))
    (dss_one (ds_put (i := 4) nd rfl (by first | exact .inl rfl | exact .inr rfl) (de_call d_next_swap c (da_cons (de_var (pv 3)) (da_cons (de_var (pv 1)) (da_nil)))))))))
    (dss_one (ds_retOwn (pv 2)))))))))
theorem df_swaps_between {P : Program} {w : World} {K : PySem.W.Frag} {mg : Str → Option Value} {base : Heap} {ca : Str → Addr} (B : Bl mg) (d_check_grid : Df P w K mg base "check_grid" s_check_grid 5 ["grid"] (F_check_grid ca)) (d_sums_of : Df P w K mg base "sums_of" s_sums_of 1 ["grid"] F_sums_of) (d_next_swap : Df P w K mg base "next_swap" s_next_swap 1 ["grid", "other_grid"] F_next_swap) (d_behind : Df P w K mg base "behind" s_behind 1 ["grid", "swap"] F_behind) {f : Addr} {fd : FuncData} (F : FunD K "swaps_between" "swaps_between" (defArgs s_swaps_between) (defBody s_swaps_between) (defScope s_swaps_between) [] [] f fd) (hm : mg "swaps_between" = some (.ref f)) : Df P w K mg base "swaps_between" s_swaps_between 6 ["grid", "other_grid"] (F_swaps_between ca) :=
  Df.mk' F hm sc_swaps_between rfl (fun _ _ _ _ _ _ us hl => match us, hl with | [_, _], _ => rfl) fun cdv A outer s H E c => b_swaps_between B d_check_grid d_sums_of d_next_swap d_behind c

abbrev s_are_swaps_between : Stmt := top 33
abbrev N_are_swaps_between : List Str := ["grid", "other_grid", "value", "here", "swap"]
theorem sc_are_swaps_between : FnScope N_are_swaps_between ["grid", "other_grid", "value"] (defScope s_are_swaps_between) := ⟨rfl, rfl, rfl, by decide +kernel, rfl, by decide +kernel, by decide +kernel⟩
def g_are_swaps_between (ca : Str → Addr) : DL.Env → RS := sSeq (sDrop (fCall 1 (F_check_grid ca) (fCons (fVar 0) (fNil)))) (sSeq (sDrop (fCall 1 (F_check_grid ca) (fCons (fVar 1) (fNil)))) (sSeq (sIf (fNot (fOp1 (gIsi "list") (fVar 2))) (sRet (fC (.bool false))) (.nx)) (sSeq (sPut 3 (fVar 0)) (sSeq (sFor (srcE (fVar 2) itemsL) (bName 4) (sSeq (sIf (fNot (fCall 2 F_is_swap (fCons (fVar 3) (fCons (fVar 4) (fNil))))) (sRet (fC (.bool false))) (.nx)) (sPut 3 (fCall 2 F_behind (fCons (fVar 3) (fCons (fVar 4) (fNil))))))) (sRet (fOp2 gEq (fVar 3) (fVar 1)))))))
def F_are_swaps_between (ca : Str → Addr) : List Sl → RF := fnF 5 (g_are_swaps_between ca)
theorem b_are_swaps_between {P : Program} {w : World} {K : PySem.W.Frag} {mg : Str → Option Value} {base : Heap} {ca : Str → Addr} (B : Bl mg) (d_check_grid : Df P w K mg base "check_grid" s_check_grid 5 ["grid"] (F_check_grid ca)) (d_is_swap : Df P w K mg base "is_swap" s_is_swap 3 ["grid", "value"] F_is_swap) (d_behind : Df P w K mg base "behind" s_behind 1 ["grid", "swap"] F_behind) {f : Addr} {cdv : Value} {A : Around} {outer : List PySem.Env} {s : Shared} {H : Hp} {E : XK} (c : Cn (fx P w K mg base N_are_swaps_between "are_swaps_between" s_are_swaps_between f cdv A outer s H E) E 5) :
    DSs (fx P w K mg base N_are_swaps_between "are_swaps_between" s_are_swaps_between f cdv A outer s H E) E (defBody s_are_swaps_between) (g_are_swaps_between ca) := by
  have nd := sc_are_swaps_between.nd
  exact dss_cons (ds_drop (de_call d_check_grid c (da_cons (de_var (pv 0)) (da_nil))))
    (dss_cons (ds_drop (de_call d_check_grid c (da_cons (de_var (pv 1)) (da_nil))))
    (dss_cons (ds_if (dt_not (dt_val (d_isi B "list" "list" rfl B.list bt_list (de_var (pv 2))))) (dss_one (ds_ret (de_bl))) (dss_nil))
    (dss_cons (ds_put (i := 3) nd rfl (by first | exact .inl rfl | exact .inr rfl) (de_var (pv 0)))
    (dss_cons (ds_for (passes_of rfl) c.cm (di_list (de_var (pv 2))) (gt_name) (pg_name nd (i := 4) rfl (by first | exact .inl rfl | exact .inr rfl)) (dss_cons (ds_if (dt_not (dt_val (de_call d_is_swap c (da_cons (de_var (pv 3)) (da_cons (de_var (pv 4)) (da_nil)))))) (dss_one (ds_ret (de_bl))) (dss_nil))
    (dss_one (ds_put (i := 3) nd rfl (by first | exact .inl rfl | exact .inr rfl) (de_call d_behind c (da_cons (de_var (pv 3)) (da_cons (de_var (pv 4)) (da_nil))))))))
    (dss_one (ds_ret (d_eq c.rm.units (de_var (pv 3)) (de_var (pv 1)))))))))
theorem df_are_swaps_between {P : Program} {w : World} {K : PySem.W.Frag} {mg : Str → Option Value} {base : Heap} {ca : Str → Addr} (B : Bl mg) (d_check_grid : Df P w K mg base "check_grid" s_check_grid 5 ["grid"] (F_check_grid ca)) (d_is_swap : Df P w K mg base "is_swap" s_is_swap 3 ["grid", "value"] F_is_swap) (d_behind : Df P w K mg base "behind" s_behind 1 ["grid", "swap"] F_behind) {f : Addr} {fd : FuncData} (F : FunD K "are_swaps_between" "are_swaps_between" (defArgs s_are_swaps_between) (defBody s_are_swaps_between) (defScope s_are_swaps_between) [] [] f fd) (hm : mg "are_swaps_between" = some (.ref f)) : Df P w K mg base "are_swaps_between" s_are_swaps_between 6 ["grid", "other_grid", "value"] (F_are_swaps_between ca) :=
  Df.mk' F hm sc_are_swaps_between rfl (fun _ _ _ _ _ _ us hl => match us, hl with | [_, _, _], _ => rfl) fun cdv A outer s H E c => b_are_swaps_between B d_check_grid d_is_swap d_behind c

abbrev s_l_hash : Stmt := top 35
abbrev N_l_hash : List Str := ["seed", "index", "mixed"]
theorem sc_l_hash : FnScope N_l_hash ["seed", "index"] (defScope s_l_hash) := ⟨rfl, rfl, rfl, by decide +kernel, rfl, by decide +kernel, by decide +kernel⟩
def g_l_hash : DL.Env → RS := sSeq (sPut 2 (fOp2 gMod (bndA (fCons (fOp2 gAdd (fOp2 gAdd (fOp2 gAdd (fOp2 gMul (fVar 0) (fC (.int 1140671))) (fOp2 gMul (fOp2 gMul (fC (.int 27644437)) (fVar 1)) (fVar 1))) (fOp2 gMul (fC (.int 131)) (fVar 1))) (fC (.int 19))) (fNil)) gInt1) (fC (.int 2147483629)))) (sSeq (sPut 2 (fOp2 gMod (bndA (fCons (fOp2 gAdd (fOp2 gAdd (fOp2 gMul (fVar 2) (fVar 2)) (fOp2 gMul (fC (.int 62089)) (fVar 1))) (fC (.int 32416187))) (fNil)) gInt1) (fC (.int 2147483587)))) (sRet (fOp2 gMod (bndA (fCons (fOp2 gMul (fVar 2) (fC (.int 48271))) (fNil)) gInt1) (fC (.int 2147483647)))))
def F_l_hash : List Sl → RF := fnF 3 (g_l_hash)
theorem b_l_hash {P : Program} {w : World} {K : PySem.W.Frag} {mg : Str → Option Value} {base : Heap} (B : Bl mg) {f : Addr} {cdv : Value} {A : Around} {outer : List PySem.Env} {s : Shared} {H : Hp} {E : XK} (c : Cn (fx P w K mg base N_l_hash "_law_hash" s_l_hash f cdv A outer s H E) E 0) :
    DSs (fx P w K mg base N_l_hash "_law_hash" s_l_hash f cdv A outer s H E) E (defBody s_l_hash) (g_l_hash) := by
  have nd := sc_l_hash.nd
  exact dss_cons (ds_put (i := 2) nd rfl (by first | exact .inl rfl | exact .inr rfl) (d_mod (d_int B (da_cons (d_add (d_add (d_add (d_mul (de_var (pv 0)) (de_int)) (d_mul (d_mul (de_int) (de_var (pv 1))) (de_var (pv 1)))) (d_mul (de_int) (de_var (pv 1)))) (de_int)) (da_nil))) (de_int)))
    (dss_cons (ds_put (i := 2) nd rfl (by first | exact .inl rfl | exact .inr rfl) (d_mod (d_int B (da_cons (d_add (d_add (d_mul (de_var (pv 2)) (de_var (pv 2))) (d_mul (de_int) (de_var (pv 1)))) (de_int)) (da_nil))) (de_int)))
    (dss_one (ds_ret (d_mod (d_int B (da_cons (d_mul (de_var (pv 2)) (de_int)) (da_nil))) (de_int)))))
theorem df_l_hash {P : Program} {w : World} {K : PySem.W.Frag} {mg : Str → Option Value} {base : Heap} (B : Bl mg) {f : Addr} {fd : FuncData} (F : FunD K "_law_hash" "_law_hash" (defArgs s_l_hash) (defBody s_l_hash) (defScope s_l_hash) [] [] f fd) (hm : mg "_law_hash" = some (.ref f)) : Df P w K mg base "_law_hash" s_l_hash 1 ["seed", "index"] (F_l_hash) :=
  Df.mk' F hm sc_l_hash rfl (fun _ _ _ _ _ _ us hl => match us, hl with | [_, _], _ => rfl) fun cdv A outer s H E c => b_l_hash B c

abbrev s_l_random : Stmt := top 36
abbrev N_l_random : List Str := ["generator", "bound", "drawn", "turn"]
theorem sc_l_random : FnScope N_l_random ["generator", "bound"] (defScope s_l_random) := ⟨rfl, rfl, rfl, by decide +kernel, rfl, by decide +kernel, by decide +kernel⟩
def g_l_random : DL.Env → RS := sSeq (sIf (fOp2 gGt (fIxO 0 (fC (.int 0))) (fC (.int 0))) (sSeq (sPut 2 (fOp2 gMod (bndA (fCons (fIxO 0 (fC (.int 0))) (fNil)) gInt1) (fVar 1))) (sSeq (sSetO 0 (fOp2 gDiv (fIxO 0 (fC (.int 0))) (fVar 1)) (fC (.int 0))) (sRet (fVar 2)))) (.nx)) (sSeq (sPut 2 (fC (.int 0))) (sSeq (sFor (srcA (fCons (fOp2 gAdd (fC (.int 1)) (fOp2 gDiv (fOp1 gBits (fVar 1)) (fC (.int 30)))) (fNil)) kRng1) (bName 3) (sSeq (sSetO 0 (fOp2 gAdd (fIxO 0 (fC (.int 2))) (fC (.int 1))) (fC (.int 2))) (sPut 2 (fOp2 gAdd (fOp2 gMul (fVar 2) (fC (.int 2147483587))) (fCall 2 F_l_hash (fCons (fIxO 0 (fC (.int 1))) (fCons (fIxO 0 (fC (.int 2))) (fNil)))))))) (sRet (fOp2 gMod (bndA (fCons (fVar 2) (fNil)) gInt1) (fVar 1)))))
def F_l_random : List Sl → RF := fnF 4 (g_l_random)
theorem b_l_random {P : Program} {w : World} {K : PySem.W.Frag} {mg : Str → Option Value} {base : Heap} (B : Bl mg) (d_l_hash : Df P w K mg base "_law_hash" s_l_hash 1 ["seed", "index"] F_l_hash) {f : Addr} {cdv : Value} {A : Around} {outer : List PySem.Env} {s : Shared} {H : Hp} {E : XK} (c : Cn (fx P w K mg base N_l_random "_law_random" s_l_random f cdv A outer s H E) E 1) :
    DSs (fx P w K mg base N_l_random "_law_random" s_l_random f cdv A outer s H E) E (defBody s_l_random) (g_l_random) := by
  have nd := sc_l_random.nd
  exact dss_cons (ds_if (t_gt (de_ixO (pv 0) (de_int)) (de_int)) (dss_cons (ds_put (i := 2) nd rfl (by first | exact .inl rfl | exact .inr rfl) (d_mod (d_int B (da_cons (de_ixO (pv 0) (de_int)) (da_nil))) (de_var (pv 1))))
    (dss_cons (ds_setO (pv 0) (d_div (de_ixO (pv 0) (de_int)) (de_var (pv 1))) (de_int))
    (dss_one (ds_ret (de_var (pv 2)))))) (dss_nil))
    (dss_cons (ds_put (i := 2) nd rfl (by first | exact .inl rfl | exact .inr rfl) (de_int))
    (dss_cons (ds_for (passes_of rfl) c.cm (di_rng1 rfl B.range (da_cons (d_add (de_int) (d_div (d_bits (de_var (pv 1))) (de_int))) (da_nil))) (gt_name) (pg_name nd (i := 3) rfl (by first | exact .inl rfl | exact .inr rfl)) (dss_cons (ds_setO (pv 0) (d_add (de_ixO (pv 0) (de_int)) (de_int)) (de_int))
    (dss_one (ds_put (i := 2) nd rfl (by first | exact .inl rfl | exact .inr rfl) (d_add (d_mul (de_var (pv 2)) (de_int)) (de_call d_l_hash c (da_cons (de_ixO (pv 0) (de_int)) (da_cons (de_ixO (pv 0) (de_int)) (da_nil)))))))))
    (dss_one (ds_ret (d_mod (d_int B (da_cons (de_var (pv 2)) (da_nil))) (de_var (pv 1)))))))
theorem df_l_random {P : Program} {w : World} {K : PySem.W.Frag} {mg : Str → Option Value} {base : Heap} (B : Bl mg) (d_l_hash : Df P w K mg base "_law_hash" s_l_hash 1 ["seed", "index"] F_l_hash) {f : Addr} {fd : FuncData} (F : FunD K "_law_random" "_law_random" (defArgs s_l_random) (defBody s_l_random) (defScope s_l_random) [] [] f fd) (hm : mg "_law_random" = some (.ref f)) : Df P w K mg base "_law_random" s_l_random 2 ["generator", "bound"] (F_l_random) :=
  Df.mk' F hm sc_l_random rfl (fun _ _ _ _ _ _ us hl => match us, hl with | [_, _], _ => rfl) fun cdv A outer s H E c => b_l_random B d_l_hash c

abbrev s_l_pick : Stmt := top 39
abbrev N_l_pick : List Str := ["generator", "things"]
theorem sc_l_pick : FnScope N_l_pick ["generator", "things"] (defScope s_l_pick) := ⟨rfl, rfl, rfl, by decide +kernel, rfl, by decide +kernel, by decide +kernel⟩
def g_l_pick : DL.Env → RS := sRet (fOp2 gIx (fVar 1) (fLend 2 0 F_l_random (fCons (bndA (fCons (fVar 1) (fNil)) gLen) (fNil))))
def F_l_pick : List Sl → RF := fnF 2 (g_l_pick)
theorem b_l_pick {P : Program} {w : World} {K : PySem.W.Frag} {mg : Str → Option Value} {base : Heap} (B : Bl mg) (d_l_random : Df P w K mg base "_law_random" s_l_random 2 ["generator", "bound"] F_l_random) {f : Addr} {cdv : Value} {A : Around} {outer : List PySem.Env} {s : Shared} {H : Hp} {E : XK} (c : Cn (fx P w K mg base N_l_pick "_law_pick" s_l_pick f cdv A outer s H E) E 2) :
    DSs (fx P w K mg base N_l_pick "_law_pick" s_l_pick f cdv A outer s H E) E (defBody s_l_pick) (g_l_pick) := by
  have nd := sc_l_pick.nd
  exact dss_one (ds_ret (d_ix (de_var (pv 1)) (de_lend d_l_random c (pv 0) (da_cons (d_len B (da_cons (de_var (pv 1)) (da_nil))) (da_nil)))))
theorem df_l_pick {P : Program} {w : World} {K : PySem.W.Frag} {mg : Str → Option Value} {base : Heap} (B : Bl mg) (d_l_random : Df P w K mg base "_law_random" s_l_random 2 ["generator", "bound"] F_l_random) {f : Addr} {fd : FuncData} (F : FunD K "_law_pick" "_law_pick" (defArgs s_l_pick) (defBody s_l_pick) (defScope s_l_pick) [] [] f fd) (hm : mg "_law_pick" = some (.ref f)) : Df P w K mg base "_law_pick" s_l_pick 3 ["generator", "things"] (F_l_pick) :=
  Df.mk' F hm sc_l_pick rfl (fun _ _ _ _ _ _ us hl => match us, hl with | [_, _], _ => rfl) fun cdv A outer s H E c => b_l_pick B d_l_random c

abbrev s_l_alike : Stmt := top 42
abbrev N_l_alike : List Str := ["told", "due"]
theorem sc_l_alike : FnScope N_l_alike ["told", "due"] (defScope s_l_alike) := ⟨rfl, rfl, rfl, by decide +kernel, rfl, by decide +kernel, by decide +kernel⟩
def g_l_alike : DL.Env → RS := sRet (fOp2 gEq (bndA (fCons (fVar 0) (fNil)) gRepr) (bndA (fCons (fVar 1) (fNil)) gRepr))
def F_l_alike : List Sl → RF := fnF 2 (g_l_alike)
theorem b_l_alike {P : Program} {w : World} {K : PySem.W.Frag} {mg : Str → Option Value} {base : Heap} (B : Bl mg) {f : Addr} {cdv : Value} {A : Around} {outer : List PySem.Env} {s : Shared} {H : Hp} {E : XK} (c : Cn (fx P w K mg base N_l_alike "_law_alike" s_l_alike f cdv A outer s H E) E 0) :
    DSs (fx P w K mg base N_l_alike "_law_alike" s_l_alike f cdv A outer s H E) E (defBody s_l_alike) (g_l_alike) := by
  have nd := sc_l_alike.nd
  exact dss_one (ds_ret (d_eq c.rm.units (d_repr c (da_cons (de_var (pv 0)) (da_nil)) B.repr) (d_repr c (da_cons (de_var (pv 1)) (da_nil)) B.repr)))
theorem df_l_alike {P : Program} {w : World} {K : PySem.W.Frag} {mg : Str → Option Value} {base : Heap} (B : Bl mg) {f : Addr} {fd : FuncData} (F : FunD K "_law_alike" "_law_alike" (defArgs s_l_alike) (defBody s_l_alike) (defScope s_l_alike) [] [] f fd) (hm : mg "_law_alike" = some (.ref f)) : Df P w K mg base "_law_alike" s_l_alike 1 ["told", "due"] (F_l_alike) :=
  Df.mk' F hm sc_l_alike rfl (fun _ _ _ _ _ _ us hl => match us, hl with | [_, _], _ => rfl) fun cdv A outer s H E c => b_l_alike B c

abbrev s_l_is_count : Stmt := top 45
abbrev N_l_is_count : List Str := ["value"]
theorem sc_l_is_count : FnScope N_l_is_count ["value"] (defScope s_l_is_count) := ⟨rfl, rfl, rfl, by decide +kernel, rfl, by decide +kernel, by decide +kernel⟩
def g_l_is_count : DL.Env → RS := sRet (fAnd (fOp1 (gIsi "int") (fVar 0)) (fAnd (fNot (fOp1 (gIsi "bool") (fVar 0))) (fOp2 gGe (fVar 0) (fC (.int 0)))))
def F_l_is_count : List Sl → RF := fnF 1 (g_l_is_count)
theorem b_l_is_count {P : Program} {w : World} {K : PySem.W.Frag} {mg : Str → Option Value} {base : Heap} (B : Bl mg) {f : Addr} {cdv : Value} {A : Around} {outer : List PySem.Env} {s : Shared} {H : Hp} {E : XK} (c : Cn (fx P w K mg base N_l_is_count "_law_is_count" s_l_is_count f cdv A outer s H E) E 0) :
    DSs (fx P w K mg base N_l_is_count "_law_is_count" s_l_is_count f cdv A outer s H E) E (defBody s_l_is_count) (g_l_is_count) := by
  have nd := sc_l_is_count.nd
  exact dss_one (ds_ret (de_and (d_isi B "int" "int" rfl B.int bt_int (de_var (pv 0))) (de_and (de_not (d_isi B "bool" "bool" rfl B.bool bt_bool (de_var (pv 0)))) (de_one (d_ge (de_var (pv 0)) (de_int))))))
theorem df_l_is_count {P : Program} {w : World} {K : PySem.W.Frag} {mg : Str → Option Value} {base : Heap} (B : Bl mg) {f : Addr} {fd : FuncData} (F : FunD K "_law_is_count" "_law_is_count" (defArgs s_l_is_count) (defBody s_l_is_count) (defScope s_l_is_count) [] [] f fd) (hm : mg "_law_is_count" = some (.ref f)) : Df P w K mg base "_law_is_count" s_l_is_count 1 ["value"] (F_l_is_count) :=
  Df.mk' F hm sc_l_is_count rfl (fun _ _ _ _ _ _ us hl => match us, hl with | [_], _ => rfl) fun cdv A outer s H E c => b_l_is_count B c

abbrev s_l_margins : Stmt := top 46
abbrev N_l_margins : List Str := ["page", "row", "at"]
theorem sc_l_margins : FnScope N_l_margins ["page"] (defScope s_l_margins) := ⟨rfl, rfl, rfl, by decide +kernel, rfl, by decide +kernel, by decide +kernel⟩
def g_l_margins : DL.Env → RS := sRet (bndA (fCons (fLc (srcE (fVar 0) itemsL) (bName 1) (fC (.bool true)) (bndA (fCons (fVar 1) (fNil)) gSum) [1]) (fCons (fLc (srcA (fCons (bndA (fCons (fOp2 gIx (fVar 0) (fC (.int 0))) (fNil)) gLen) (fNil)) kRng1) (bName 2) (fC (.bool true)) (bndA (fCons (fLc (srcE (fVar 0) itemsL) (bName 1) (fC (.bool true)) (fOp2 gIx (fVar 1) (fVar 2)) [1]) (fNil)) gSum) [2]) (fNil))) gMkT)
def F_l_margins : List Sl → RF := fnF 3 (g_l_margins)
theorem b_l_margins {P : Program} {w : World} {K : PySem.W.Frag} {mg : Str → Option Value} {base : Heap} (B : Bl mg) {f : Addr} {cdv : Value} {A : Around} {outer : List PySem.Env} {s : Shared} {H : Hp} {E : XK} (c : Cn (fx P w K mg base N_l_margins "_law_margins" s_l_margins f cdv A outer s H E) E 0) :
    DSs (fx P w K mg base N_l_margins "_law_margins" s_l_margins f cdv A outer s H E) E (defBody s_l_margins) (g_l_margins) := by
  have nd := sc_l_margins.nd
  exact dss_one (ds_ret (de_mkT (da_cons (de_lc (own := [("row", 1)]) c.cm nd (di_list (de_var (pv 0))) (blkOk_by (by rfl)) (gt_name) (by decide) (fun _ _ _ _ _ => pg_name nd (i := 1) rfl (by first | exact .inl rfl | exact .inr rfl)) (fun _ _ _ _ _ => dts_nil) (fun _ _ _ _ _ => d_sum c.blk B (da_cons (de_var (pv 1)) (da_nil)))) (da_cons (de_lc (own := [("at", 2)]) c.cm nd (di_rng1 rfl B.range (da_cons (d_len B (da_cons (d_ix (de_var (pv 0)) (de_int)) (da_nil))) (da_nil))) (blkOk_by (by rfl)) (gt_name) (by decide) (fun _ _ _ _ _ => pg_name nd (i := 2) rfl (by first | exact .inl rfl | exact .inr rfl)) (fun _ _ _ _ _ => dts_nil) (fun _ _ _ _ _ => d_sum c.blk B (da_cons (de_lc (own := [("row", 1)]) c.blk.cm nd (di_list (de_var (pv 0))) (blkOk_by (by rfl)) (gt_name) (by decide) (fun _ _ _ _ _ => pg_name nd (i := 1) rfl (by first | exact .inl rfl | exact .inr rfl)) (fun _ _ _ _ _ => dts_nil) (fun _ _ _ _ _ => d_ix (de_var (pv 1)) (de_var (pv 2)))) (da_nil)))) (da_nil)))))
theorem df_l_margins {P : Program} {w : World} {K : PySem.W.Frag} {mg : Str → Option Value} {base : Heap} (B : Bl mg) {f : Addr} {fd : FuncData} (F : FunD K "_law_margins" "_law_margins" (defArgs s_l_margins) (defBody s_l_margins) (defScope s_l_margins) [] [] f fd) (hm : mg "_law_margins" = some (.ref f)) : Df P w K mg base "_law_margins" s_l_margins 1 ["page"] (F_l_margins) :=
  Df.mk' F hm sc_l_margins rfl (fun _ _ _ _ _ _ us hl => match us, hl with | [_], _ => rfl) fun cdv A outer s H E c => b_l_margins B c

abbrev s_l_grid : Stmt := top 47
abbrev N_l_grid : List Str := ["generator", "rows", "columns", "most", "column", "row"]
theorem sc_l_grid : FnScope N_l_grid ["generator", "rows", "columns", "most"] (defScope s_l_grid) := ⟨rfl, rfl, rfl, by decide +kernel, rfl, by decide +kernel, by decide +kernel⟩
def g_l_grid : DL.Env → RS := sRet (fLc (srcA (fCons (fVar 1) (fNil)) kRng1) (bName 5) (fC (.bool true)) (fLc (srcA (fCons (fVar 2) (fNil)) kRng1) (bName 4) (fC (.bool true)) (fLend 2 0 F_l_random (fCons (fOp2 gAdd (fVar 3) (fC (.int 1))) (fNil))) [4]) [5])
def F_l_grid : List Sl → RF := fnF 6 (g_l_grid)
theorem b_l_grid {P : Program} {w : World} {K : PySem.W.Frag} {mg : Str → Option Value} {base : Heap} (B : Bl mg) (d_l_random : Df P w K mg base "_law_random" s_l_random 2 ["generator", "bound"] F_l_random) {f : Addr} {cdv : Value} {A : Around} {outer : List PySem.Env} {s : Shared} {H : Hp} {E : XK} (c : Cn (fx P w K mg base N_l_grid "_law_grid" s_l_grid f cdv A outer s H E) E 2) :
    DSs (fx P w K mg base N_l_grid "_law_grid" s_l_grid f cdv A outer s H E) E (defBody s_l_grid) (g_l_grid) := by
  have nd := sc_l_grid.nd
  exact dss_one (ds_ret (de_lc (own := [("row", 5)]) c.cm nd (di_rng1 rfl B.range (da_cons (de_var (pv 1)) (da_nil))) (blkOk_by (by rfl)) (gt_name) (by decide) (fun _ _ _ _ _ => pg_name nd (i := 5) rfl (by first | exact .inl rfl | exact .inr rfl)) (fun _ _ _ _ _ => dts_nil) (fun _ _ _ _ _ => de_lc (own := [("column", 4)]) c.blk.cm nd (di_rng1 rfl B.range (da_cons (de_var (pv 2)) (da_nil))) (blkOk_by (by rfl)) (gt_name) (by decide) (fun _ _ _ _ _ => pg_name nd (i := 4) rfl (by first | exact .inl rfl | exact .inr rfl)) (fun _ _ _ _ _ => dts_nil) (fun _ _ _ _ _ => de_lend d_l_random c.blk.blk (pv 0) (da_cons (d_add (de_var (pv 3)) (de_int)) (da_nil))))))
theorem df_l_grid {P : Program} {w : World} {K : PySem.W.Frag} {mg : Str → Option Value} {base : Heap} (B : Bl mg) (d_l_random : Df P w K mg base "_law_random" s_l_random 2 ["generator", "bound"] F_l_random) {f : Addr} {fd : FuncData} (F : FunD K "_law_grid" "_law_grid" (defArgs s_l_grid) (defBody s_l_grid) (defScope s_l_grid) [] [] f fd) (hm : mg "_law_grid" = some (.ref f)) : Df P w K mg base "_law_grid" s_l_grid 3 ["generator", "rows", "columns", "most"] (F_l_grid) :=
  Df.mk' F hm sc_l_grid rfl (fun _ _ _ _ _ _ us hl => match us, hl with | [_, _, _, _], _ => rfl) fun cdv A outer s H E c => b_l_grid B d_l_random c

abbrev s_l_swap_ok : Stmt := top 48
abbrev N_l_swap_ok : List Str := ["page", "value", "at", "row", "other", "column", "second"]
theorem sc_l_swap_ok : FnScope N_l_swap_ok ["page", "value"] (defScope s_l_swap_ok) := ⟨rfl, rfl, rfl, by decide +kernel, rfl, by decide +kernel, by decide +kernel⟩
def g_l_swap_ok : DL.Env → RS := sSeq (sIf (fOr (fNot (fOp1 (gIsi "tuple") (fVar 1))) (fOr (fOp2 gNe (bndA (fCons (fVar 1) (fNil)) gLen) (fC (.int 4))) (fOp2 gNe (fLc (srcE (fVar 1) itemsT) (bName 2) (fNot (fCall 1 F_l_is_count (fCons (fVar 2) (fNil)))) (fVar 2) [2]) (bndA (fNil) gMkL)))) (sRet (fC (.bool false))) (.nx)) (sSeq (sBind (bTup [bName 3, bName 4, bName 5, bName 6]) (fVar 1)) (sSeq (sIf (fOr (fOp2 gGe (fVar 3) (bndA (fCons (fVar 0) (fNil)) gLen)) (fOr (fOp2 gGe (fVar 4) (bndA (fCons (fVar 0) (fNil)) gLen)) (fOr (fOp2 gGe (fVar 5) (bndA (fCons (fOp2 gIx (fVar 0) (fC (.int 0))) (fNil)) gLen)) (fOr (fOp2 gGe (fVar 6) (bndA (fCons (fOp2 gIx (fVar 0) (fC (.int 0))) (fNil)) gLen)) (fOr (fOp2 gEq (fVar 3) (fVar 4)) (fOp2 gEq (fVar 5) (fVar 6))))))) (sRet (fC (.bool false))) (.nx)) (sRet (fAnd (fOp2 gGt (fOp2 gIx (fOp2 gIx (fVar 0) (fVar 3)) (fVar 6)) (fC (.int 0))) (fOp2 gGt (fOp2 gIx (fOp2 gIx (fVar 0) (fVar 4)) (fVar 5)) (fC (.int 0)))))))
def F_l_swap_ok : List Sl → RF := fnF 7 (g_l_swap_ok)
theorem b_l_swap_ok {P : Program} {w : World} {K : PySem.W.Frag} {mg : Str → Option Value} {base : Heap} (B : Bl mg) (d_l_is_count : Df P w K mg base "_law_is_count" s_l_is_count 1 ["value"] F_l_is_count) {f : Addr} {cdv : Value} {A : Around} {outer : List PySem.Env} {s : Shared} {H : Hp} {E : XK} (c : Cn (fx P w K mg base N_l_swap_ok "_law_swap_ok" s_l_swap_ok f cdv A outer s H E) E 1) :
    DSs (fx P w K mg base N_l_swap_ok "_law_swap_ok" s_l_swap_ok f cdv A outer s H E) E (defBody s_l_swap_ok) (g_l_swap_ok) := by
  have nd := sc_l_swap_ok.nd
  exact dss_cons (ds_if (dt_w (dw_or (dt_not (dt_val (d_isi B "tuple" "tuple" rfl B.tuple bt_tuple (de_var (pv 1))))) (dw_or (t_ne c (d_len B (da_cons (de_var (pv 1)) (da_nil))) (de_int)) (dw_or1 (t_ne c (de_lc (own := [("at", 2)]) c.cm nd (di_tup (de_var (pv 1))) (blkOk_by (by rfl)) (gt_name) (by decide) (fun _ _ _ _ _ => pg_name nd (i := 2) rfl (by first | exact .inl rfl | exact .inr rfl)) (fun _ _ _ _ _ => dts_one (dt_not (dt_val (de_call d_l_is_count c.blk (da_cons (de_var (pv 2)) (da_nil)))))) (fun _ _ _ _ _ => de_var (pv 2))) (de_mkL (da_nil))))))) (dss_one (ds_ret (de_bl))) (dss_nil))
    (dss_cons (ds_asg (gt_tup (gts_cons (gt_name) (gts_cons (gt_name) (gts_cons (gt_name) (gts_cons (gt_name) (gts_nil)))))) (pg_tup c.cm (pgs_cons (pg_name nd (i := 3) rfl (by first | exact .inl rfl | exact .inr rfl)) (pgs_cons (pg_name nd (i := 4) rfl (by first | exact .inl rfl | exact .inr rfl)) (pgs_cons (pg_name nd (i := 5) rfl (by first | exact .inl rfl | exact .inr rfl)) (pgs_cons (pg_name nd (i := 6) rfl (by first | exact .inl rfl | exact .inr rfl)) (pgs_nil)))))) (de_var (pv 1)))
    (dss_cons (ds_if (dt_w (dw_or (t_ge (de_var (pv 3)) (d_len B (da_cons (de_var (pv 0)) (da_nil)))) (dw_or (t_ge (de_var (pv 4)) (d_len B (da_cons (de_var (pv 0)) (da_nil)))) (dw_or (t_ge (de_var (pv 5)) (d_len B (da_cons (d_ix (de_var (pv 0)) (de_int)) (da_nil)))) (dw_or (t_ge (de_var (pv 6)) (d_len B (da_cons (d_ix (de_var (pv 0)) (de_int)) (da_nil)))) (dw_or (t_eq c (de_var (pv 3)) (de_var (pv 4))) (dw_or1 (t_eq c (de_var (pv 5)) (de_var (pv 6)))))))))) (dss_one (ds_ret (de_bl))) (dss_nil))
    (dss_one (ds_ret (de_and (d_gt (d_ix (d_ix (de_var (pv 0)) (de_var (pv 3))) (de_var (pv 6))) (de_int)) (de_one (d_gt (d_ix (d_ix (de_var (pv 0)) (de_var (pv 4))) (de_var (pv 5))) (de_int))))))))
theorem df_l_swap_ok {P : Program} {w : World} {K : PySem.W.Frag} {mg : Str → Option Value} {base : Heap} (B : Bl mg) (d_l_is_count : Df P w K mg base "_law_is_count" s_l_is_count 1 ["value"] F_l_is_count) {f : Addr} {fd : FuncData} (F : FunD K "_law_swap_ok" "_law_swap_ok" (defArgs s_l_swap_ok) (defBody s_l_swap_ok) (defScope s_l_swap_ok) [] [] f fd) (hm : mg "_law_swap_ok" = some (.ref f)) : Df P w K mg base "_law_swap_ok" s_l_swap_ok 2 ["page", "value"] (F_l_swap_ok) :=
  Df.mk' F hm sc_l_swap_ok rfl (fun _ _ _ _ _ _ us hl => match us, hl with | [_, _], _ => rfl) fun cdv A outer s H E c => b_l_swap_ok B d_l_is_count c

abbrev s_l_behind : Stmt := top 49
abbrev N_l_behind : List Str := ["page", "swap", "row", "other", "column", "second", "told", "line"]
theorem sc_l_behind : FnScope N_l_behind ["page", "swap"] (defScope s_l_behind) := ⟨rfl, rfl, rfl, by decide +kernel, rfl, by decide +kernel, by decide +kernel⟩
def g_l_behind : DL.Env → RS := sSeq (sBind (bTup [bName 2, bName 3, bName 4, bName 5]) (fVar 1)) (sSeq (sCopy 6 7 (fVar 0)) (sSeq (sSetN2 6 2 4 3 5 (bndA (fCons (fOp2 gAdd (fIxN 6 2 4) (fC (.int 1))) (fCons (fOp2 gAdd (fIxN 6 3 5) (fC (.int 1))) (fNil))) gMkT)) (sSeq (sSetN2 6 2 5 3 4 (bndA (fCons (fOp2 gSub (fIxN 6 2 5) (fC (.int 1))) (fCons (fOp2 gSub (fIxN 6 3 4) (fC (.int 1))) (fNil))) gMkT)) (sRetN 6))))
def F_l_behind : List Sl → RF := fnF 8 (g_l_behind)
theorem b_l_behind {P : Program} {w : World} {K : PySem.W.Frag} {mg : Str → Option Value} {base : Heap} (B : Bl mg) {f : Addr} {cdv : Value} {A : Around} {outer : List PySem.Env} {s : Shared} {H : Hp} {E : XK} (c : Cn (fx P w K mg base N_l_behind "_law_behind" s_l_behind f cdv A outer s H E) E 0) :
    DSs (fx P w K mg base N_l_behind "_law_behind" s_l_behind f cdv A outer s H E) E (defBody s_l_behind) (g_l_behind) := by
  have nd := sc_l_behind.nd
  exact dss_cons (ds_asg (gt_tup (gts_cons (gt_name) (gts_cons (gt_name) (gts_cons (gt_name) (gts_cons (gt_name) (gts_nil)))))) (pg_tup c.cm (pgs_cons (pg_name nd (i := 2) rfl (by first | exact .inl rfl | exact .inr rfl)) (pgs_cons (pg_name nd (i := 3) rfl (by first | exact .inl rfl | exact .inr rfl)) (pgs_cons (pg_name nd (i := 4) rfl (by first | exact .inl rfl | exact .inr rfl)) (pgs_cons (pg_name nd (i := 5) rfl (by first | exact .inl rfl | exact .inr rfl)) (pgs_nil)))))) (de_var (pv 1)))
    (dss_cons (ds_copy c B nd (i := 6) rfl (de_var (pv 0)) (blkOk_by (by rfl)) (fun _ _ _ _ _ => pg_name nd (i := 7) rfl (by first | exact .inl rfl | exact .inr rfl)) (fun _ _ _ _ _ => pv 7) (fun _ _ _ _ _ => by rfl) (fun _ _ _ _ _ => by rfl) rfl)
    (dss_cons (ds_setN2 c.cm (pv 6) (pv 2) (pv 4) (pv 6) (pv 3) (pv 5) (de_mkT (da_cons (d_add (de_ixN (pv 6) (pv 2) (pv 4)) (de_int)) (da_cons (d_add (de_ixN (pv 6) (pv 3) (pv 5)) (de_int)) (da_nil)))))
    (dss_cons (ds_setN2 c.cm (pv 6) (pv 2) (pv 5) (pv 6) (pv 3) (pv 4) (de_mkT (da_cons (d_sub (de_ixN (pv 6) (pv 2) (pv 5)) (de_int)) (da_cons (d_sub (de_ixN (pv 6) (pv 3) (pv 4)) (de_int)) (da_nil)))))
    (dss_one (ds_retN2 (pv 6))))))
theorem df_l_behind {P : Program} {w : World} {K : PySem.W.Frag} {mg : Str → Option Value} {base : Heap} (B : Bl mg) {f : Addr} {fd : FuncData} (F : FunD K "_law_behind" "_law_behind" (defArgs s_l_behind) (defBody s_l_behind) (defScope s_l_behind) [] [] f fd) (hm : mg "_law_behind" = some (.ref f)) : Df P w K mg base "_law_behind" s_l_behind 1 ["page", "swap"] (F_l_behind) :=
  Df.mk' F hm sc_l_behind rfl (fun _ _ _ _ _ _ us hl => match us, hl with | [_, _], _ => rfl) fun cdv A outer s H E c => b_l_behind B c

abbrev s_l_wrong_grids : Stmt := top 50
abbrev N_l_wrong_grids : List Str := []
theorem sc_l_wrong_grids : FnScope N_l_wrong_grids [] (defScope s_l_wrong_grids) := ⟨rfl, rfl, rfl, by decide +kernel, rfl, by decide +kernel, by decide +kernel⟩
def g_l_wrong_grids : DL.Env → RS := sRet (bndA (fCons (fC .none) (fCons (fC (.int 7)) (fCons (bndA (fNil) gMkT) (fCons (bndA (fNil) gMkL) (fCons (bndA (fCons (bndA (fNil) gMkL) (fNil)) gMkL) (fCons (fOp2 gMul (bndA (fCons (bndA (fCons (fC (.int 1)) (fNil)) gMkL) (fNil)) gMkL) (fC (.int 7))) (fCons (bndA (fCons (fOp2 gMul (bndA (fCons (fC (.int 1)) (fNil)) gMkL) (fC (.int 7))) (fNil)) gMkL) (fCons (bndA (fCons (bndA (fCons (fC (.int 1)) (fNil)) gMkL) (fCons (bndA (fCons (fC (.int 1)) (fCons (fC (.int 2)) (fNil))) gMkL) (fNil))) gMkL) (fCons (bndA (fCons (bndA (fCons (fC (.int 1)) (fCons (fC (.int 2)) (fNil))) gMkT) (fNil)) gMkL) (fCons (bndA (fCons (bndA (fCons (fOp2 gSub (fC (.int 0)) (fC (.int 1))) (fNil)) gMkL) (fNil)) gMkL) (fCons (bndA (fCons (bndA (fCons (fC (.bool true)) (fNil)) gMkL) (fNil)) gMkL) (fCons (bndA (fCons (bndA (fCons (fC .none) (fNil)) gMkL) (fNil)) gMkL) (fCons (bndA (fCons (bndA (fCons (fC (.str "1")) (fNil)) gMkL) (fNil)) gMkL) (fCons (bndA (fCons (fC (.int 1)) (fNil)) gMkL) (fCons (fDict0) (fNil)))))))))))))))) gMkL)
def F_l_wrong_grids : List Sl → RF := fnF 0 (g_l_wrong_grids)
theorem b_l_wrong_grids {P : Program} {w : World} {K : PySem.W.Frag} {mg : Str → Option Value} {base : Heap} (B : Bl mg) {f : Addr} {cdv : Value} {A : Around} {outer : List PySem.Env} {s : Shared} {H : Hp} {E : XK} (c : Cn (fx P w K mg base N_l_wrong_grids "_law_wrong_grids" s_l_wrong_grids f cdv A outer s H E) E 0) :
    DSs (fx P w K mg base N_l_wrong_grids "_law_wrong_grids" s_l_wrong_grids f cdv A outer s H E) E (defBody s_l_wrong_grids) (g_l_wrong_grids) := by
  have nd := sc_l_wrong_grids.nd
  exact dss_one (ds_ret (de_mkL (da_cons (de_non) (da_cons (de_int) (da_cons (de_mkT (da_nil)) (da_cons (de_mkL (da_nil)) (da_cons (de_mkL (da_cons (de_mkL (da_nil)) (da_nil))) (da_cons (d_mul (de_mkL (da_cons (de_mkL (da_cons (de_int) (da_nil))) (da_nil))) (de_int)) (da_cons (de_mkL (da_cons (d_mul (de_mkL (da_cons (de_int) (da_nil))) (de_int)) (da_nil))) (da_cons (de_mkL (da_cons (de_mkL (da_cons (de_int) (da_nil))) (da_cons (de_mkL (da_cons (de_int) (da_cons (de_int) (da_nil)))) (da_nil)))) (da_cons (de_mkL (da_cons (de_mkT (da_cons (de_int) (da_cons (de_int) (da_nil)))) (da_nil))) (da_cons (de_mkL (da_cons (de_mkL (da_cons (d_sub (de_int) (de_int)) (da_nil))) (da_nil))) (da_cons (de_mkL (da_cons (de_mkL (da_cons (de_bl) (da_nil))) (da_nil))) (da_cons (de_mkL (da_cons (de_mkL (da_cons (de_non) (da_nil))) (da_nil))) (da_cons (de_mkL (da_cons (de_mkL (da_cons (de_str) (da_nil))) (da_nil))) (da_cons (de_mkL (da_cons (de_int) (da_nil))) (da_cons (de_dict0) (da_nil))))))))))))))))))
theorem df_l_wrong_grids {P : Program} {w : World} {K : PySem.W.Frag} {mg : Str → Option Value} {base : Heap} (B : Bl mg) {f : Addr} {fd : FuncData} (F : FunD K "_law_wrong_grids" "_law_wrong_grids" (defArgs s_l_wrong_grids) (defBody s_l_wrong_grids) (defScope s_l_wrong_grids) [] [] f fd) (hm : mg "_law_wrong_grids" = some (.ref f)) : Df P w K mg base "_law_wrong_grids" s_l_wrong_grids 1 [] (F_l_wrong_grids) :=
  Df.mk' F hm sc_l_wrong_grids rfl (fun _ _ _ _ _ _ us hl => match us, hl with | [], _ => rfl) fun cdv A outer s H E c => b_l_wrong_grids B c

abbrev s_l_are_swaps : Stmt := top 51
abbrev N_l_are_swaps : List Str := ["page", "other", "value", "here", "swap"]
theorem sc_l_are_swaps : FnScope N_l_are_swaps ["page", "other", "value"] (defScope s_l_are_swaps) := ⟨rfl, rfl, rfl, by decide +kernel, rfl, by decide +kernel, by decide +kernel⟩
def g_l_are_swaps : DL.Env → RS := sSeq (sIf (fNot (fOp1 (gIsi "list") (fVar 2))) (sRet (fC (.bool false))) (.nx)) (sSeq (sPut 3 (fVar 0)) (sSeq (sFor (srcE (fVar 2) itemsL) (bName 4) (sSeq (sIf (fNot (fCall 2 F_l_swap_ok (fCons (fVar 3) (fCons (fVar 4) (fNil))))) (sRet (fC (.bool false))) (.nx)) (sPut 3 (fCall 2 F_l_behind (fCons (fVar 3) (fCons (fVar 4) (fNil))))))) (sRet (fOp2 gEq (fVar 3) (fVar 1)))))
def F_l_are_swaps : List Sl → RF := fnF 5 (g_l_are_swaps)
theorem b_l_are_swaps {P : Program} {w : World} {K : PySem.W.Frag} {mg : Str → Option Value} {base : Heap} (B : Bl mg) (d_l_swap_ok : Df P w K mg base "_law_swap_ok" s_l_swap_ok 2 ["page", "value"] F_l_swap_ok) (d_l_behind : Df P w K mg base "_law_behind" s_l_behind 1 ["page", "swap"] F_l_behind) {f : Addr} {cdv : Value} {A : Around} {outer : List PySem.Env} {s : Shared} {H : Hp} {E : XK} (c : Cn (fx P w K mg base N_l_are_swaps "_law_are_swaps" s_l_are_swaps f cdv A outer s H E) E 2) :
    DSs (fx P w K mg base N_l_are_swaps "_law_are_swaps" s_l_are_swaps f cdv A outer s H E) E (defBody s_l_are_swaps) (g_l_are_swaps) := by
  have nd := sc_l_are_swaps.nd
  exact dss_cons (ds_if (dt_not (dt_val (d_isi B "list" "list" rfl B.list bt_list (de_var (pv 2))))) (dss_one (ds_ret (de_bl))) (dss_nil))
    (dss_cons (ds_put (i := 3) nd rfl (by first | exact .inl rfl | exact .inr rfl) (de_var (pv 0)))
    (dss_cons (ds_for (passes_of rfl) c.cm (di_list (de_var (pv 2))) (gt_name) (pg_name nd (i := 4) rfl (by first | exact .inl rfl | exact .inr rfl)) (dss_cons (ds_if (dt_not (dt_val (de_call d_l_swap_ok c (da_cons (de_var (pv 3)) (da_cons (de_var (pv 4)) (da_nil)))))) (dss_one (ds_ret (de_bl))) (dss_nil))
    (dss_one (ds_put (i := 3) nd rfl (by first | exact .inl rfl | exact .inr rfl) (de_call d_l_behind c (da_cons (de_var (pv 3)) (da_cons (de_var (pv 4)) (da_nil))))))))
    (dss_one (ds_ret (d_eq c.rm.units (de_var (pv 3)) (de_var (pv 1)))))))
theorem df_l_are_swaps {P : Program} {w : World} {K : PySem.W.Frag} {mg : Str → Option Value} {base : Heap} (B : Bl mg) (d_l_swap_ok : Df P w K mg base "_law_swap_ok" s_l_swap_ok 2 ["page", "value"] F_l_swap_ok) (d_l_behind : Df P w K mg base "_law_behind" s_l_behind 1 ["page", "swap"] F_l_behind) {f : Addr} {fd : FuncData} (F : FunD K "_law_are_swaps" "_law_are_swaps" (defArgs s_l_are_swaps) (defBody s_l_are_swaps) (defScope s_l_are_swaps) [] [] f fd) (hm : mg "_law_are_swaps" = some (.ref f)) : Df P w K mg base "_law_are_swaps" s_l_are_swaps 3 ["page", "other", "value"] (F_l_are_swaps) :=
  Df.mk' F hm sc_l_are_swaps rfl (fun _ _ _ _ _ _ us hl => match us, hl with | [_, _, _], _ => rfl) fun cdv A outer s H E c => b_l_are_swaps B d_l_swap_ok d_l_behind c

abbrev s_l_drawn_swap : Stmt := top 52
abbrev N_l_drawn_swap : List Str := ["generator", "page"]
theorem sc_l_drawn_swap : FnScope N_l_drawn_swap ["generator", "page"] (defScope s_l_drawn_swap) := ⟨rfl, rfl, rfl, by decide +kernel, rfl, by decide +kernel, by decide +kernel⟩
def g_l_drawn_swap : DL.Env → RS := sRet (bndA (fCons (fLend 2 0 F_l_random (fCons (bndA (fCons (fVar 1) (fNil)) gLen) (fNil))) (fCons (fLend 2 0 F_l_random (fCons (bndA (fCons (fVar 1) (fNil)) gLen) (fNil))) (fCons (fLend 2 0 F_l_random (fCons (bndA (fCons (fOp2 gIx (fVar 1) (fC (.int 0))) (fNil)) gLen) (fNil))) (fCons (fLend 2 0 F_l_random (fCons (bndA (fCons (fOp2 gIx (fVar 1) (fC (.int 0))) (fNil)) gLen) (fNil))) (fNil))))) gMkT)
def F_l_drawn_swap : List Sl → RF := fnF 2 (g_l_drawn_swap)
theorem b_l_drawn_swap {P : Program} {w : World} {K : PySem.W.Frag} {mg : Str → Option Value} {base : Heap} (B : Bl mg) (d_l_random : Df P w K mg base "_law_random" s_l_random 2 ["generator", "bound"] F_l_random) {f : Addr} {cdv : Value} {A : Around} {outer : List PySem.Env} {s : Shared} {H : Hp} {E : XK} (c : Cn (fx P w K mg base N_l_drawn_swap "_law_drawn_swap" s_l_drawn_swap f cdv A outer s H E) E 2) :
    DSs (fx P w K mg base N_l_drawn_swap "_law_drawn_swap" s_l_drawn_swap f cdv A outer s H E) E (defBody s_l_drawn_swap) (g_l_drawn_swap) := by
  have nd := sc_l_drawn_swap.nd
  exact dss_one (ds_ret (de_mkT (da_cons (de_lend d_l_random c (pv 0) (da_cons (d_len B (da_cons (de_var (pv 1)) (da_nil))) (da_nil))) (da_cons (de_lend d_l_random c (pv 0) (da_cons (d_len B (da_cons (de_var (pv 1)) (da_nil))) (da_nil))) (da_cons (de_lend d_l_random c (pv 0) (da_cons (d_len B (da_cons (d_ix (de_var (pv 1)) (de_int)) (da_nil))) (da_nil))) (da_cons (de_lend d_l_random c (pv 0) (da_cons (d_len B (da_cons (d_ix (de_var (pv 1)) (de_int)) (da_nil))) (da_nil))) (da_nil)))))))
theorem df_l_drawn_swap {P : Program} {w : World} {K : PySem.W.Frag} {mg : Str → Option Value} {base : Heap} (B : Bl mg) (d_l_random : Df P w K mg base "_law_random" s_l_random 2 ["generator", "bound"] F_l_random) {f : Addr} {fd : FuncData} (F : FunD K "_law_drawn_swap" "_law_drawn_swap" (defArgs s_l_drawn_swap) (defBody s_l_drawn_swap) (defScope s_l_drawn_swap) [] [] f fd) (hm : mg "_law_drawn_swap" = some (.ref f)) : Df P w K mg base "_law_drawn_swap" s_l_drawn_swap 3 ["generator", "page"] (F_l_drawn_swap) :=
  Df.mk' F hm sc_l_drawn_swap rfl (fun _ _ _ _ _ _ us hl => match us, hl with | [_, _], _ => rfl) fun cdv A outer s H E c => b_l_drawn_swap B d_l_random c

end K54
/-! M1: what denotations give, by rules. -/
namespace DL
open PySem L2 PyProof.Rows
def pubs (ρ : Env) : Prop := ∀ o ∈ ρ, ∀ t ds, o ≠ some (.own t ds)
def isPub (o : Option Sl) : Prop := ∀ t ds, o ≠ some (.own t ds)
theorem colE_pubs {ρ : Env} (h : pubs ρ) : colE ρ = [] := by
  unfold colE
  rw [List.filterMap_eq_nil_iff]
  intro o ho
  have q := h o ho
  cases o with
  | none => rfl
  | some s =>
    cases s with
    | pub m d => rfl
    | own t ds => exact absurd rfl (q t ds)
    | nst g => rfl
theorem colE_args (ds : List D) (n : Nat) : colE ((ds.map Sl.pu).map some ++ List.replicate n none) = [] := colE_pubs fun o ho t es e => by
  subst e
  rcases List.mem_append.mp ho with h | h
  · obtain ⟨s, hs, e⟩ := List.mem_map.mp h
    obtain ⟨d, _, e2⟩ := List.mem_map.mp hs
    rw [← e2] at e
    cases e
  · cases List.eq_of_mem_replicate h
theorem colE_args0 (ds : List D) : colE ((ds.map Sl.pu).map some) = [] := by
  have := colE_args ds 0
  simpa using this
/-- the value of an expression that leaves the slots as they are -/
def Ev (f : Env → RE) (ρ : Env) (d : D) : Prop := ∃ w, f ρ = .ok w ρ ∧ w.d = d
def Evl (f : Env → RE) (ρ : Env) (ds : List D) : Prop := f ρ = .ok (.frs ds) ρ
def EvL (fs : Env → RL) (ρ : Env) (ds : List D) : Prop := fs ρ = .ok ds ρ
section
variable {ρ : Env} {fa fb fc ft ff : Env → RE} {fs : Env → RL} {a b c d : D} {ds : List D} {w : W} {i m : Nat}
theorem Evl.ev (h : Evl fa ρ ds) : Ev fa ρ (.list ds) := ⟨_, h, rfl⟩
theorem Ev.k : Ev (fC d) ρ d := ⟨.pu d, rfl, rfl⟩
theorem Ev.var (h : ρ[i]? = some (some (.pub m d))) : Ev (fVar i) ρ d := ⟨.pu d, by unfold fVar; rw [h], rfl⟩
theorem Ev.bnd {k : D → Env → RE} (ha : Ev fa ρ a) (h : Ev (k a) ρ d) : Ev (bndE fa k) ρ d := by
  obtain ⟨wa, h1, rfl⟩ := ha
  obtain ⟨wb, h2, rfl⟩ := h
  refine ⟨wb, ?_, rfl⟩
  unfold bndE
  rw [h1]
  exact h2
theorem Ev.res (h : ∃ w, (o : Option W) = some w ∧ w.d = d) : Ev (resW o) ρ d := by
  obtain ⟨w, rfl, e⟩ := h
  exact ⟨w, rfl, e⟩
theorem Ev.op2 {g : D → D → Option W} (ha : Ev fa ρ a) (hb : Ev fb ρ b) (h : g a b = some w) : Ev (fOp2 g fa fb) ρ w.d := ha.bnd (hb.bnd (.res ⟨w, h, rfl⟩))
theorem Ev.op1 {g : D → Option W} (ha : Ev fa ρ a) (h : g a = some w) : Ev (fOp1 g fa) ρ w.d := ha.bnd (.res ⟨w, h, rfl⟩)
theorem Ev.both {x : Bool} (ha : Ev fa ρ (.bool x)) (h1 : x = true → Ev ft ρ d) (h2 : x = false → Ev ff ρ d) : Ev (fBoth fa ft ff) ρ d := by
  refine ha.bnd ?_
  cases x with
  | true => exact h1 rfl
  | false => exact h2 rfl
theorem Ev.and {x y : Bool} (ha : Ev fa ρ (.bool x)) (hb : x = true → Ev fb ρ (.bool y)) : Ev (fAnd fa fb) ρ (.bool (x && y)) := by
  refine ha.both (fun e => ?_) fun e => ?_
  · subst e; exact hb rfl
  · subst e; exact .k
theorem Ev.or {x y : Bool} (ha : Ev fa ρ (.bool x)) (hb : x = false → Ev fb ρ (.bool y)) : Ev (fOr fa fb) ρ (.bool (x || y)) := by
  refine ha.both (fun e => ?_) fun e => ?_
  · subst e; exact .k
  · subst e; exact hb rfl
theorem Ev.not {x : Bool} (ha : Ev fa ρ (.bool x)) : Ev (fNot fa) ρ (.bool (!x)) := by
  refine ha.both (fun e => ?_) fun e => ?_
  · subst e; exact .k
  · subst e; exact .k
theorem Ev.if {x : Bool} (ha : Ev fa ρ (.bool x)) (h1 : x = true → Ev ft ρ d) (h2 : x = false → Ev ff ρ d) : Ev (fIf fa ft ff) ρ d := ha.both h1 h2
theorem Ev.chain {g g' : D → D → Option W} {x : Bool} (ha : Ev fa ρ a) (hb : Ev fb ρ b) (h : g a b = some (.pu (.bool x))) (hc : x = true → Ev fc ρ c ∧ g' b c = some w) : Ev (fChain g g' fa fb fc) ρ (if x then w.d else .bool false) := by
  obtain ⟨wa, h1, rfl⟩ := ha
  obtain ⟨wb, h2, rfl⟩ := hb
  unfold Ev fChain
  rw [h1]
  dsimp only
  rw [h2]
  dsimp only
  rw [h]
  cases x with
  | true =>
    obtain ⟨⟨wc, h3, rfl⟩, h4⟩ := hc rfl
    dsimp only
    rw [h3]
    dsimp only
    rw [h4]
    exact ⟨w, rfl, rfl⟩
  | false => exact ⟨_, rfl, rfl⟩
theorem EvL.nil : EvL fNil ρ [] := rfl
theorem EvL.cons {fr : Env → RL} (ha : Ev fa ρ a) (hr : EvL fr ρ ds) : EvL (fCons fa fr) ρ (a :: ds) := by
  obtain ⟨wa, h1, rfl⟩ := ha
  unfold EvL fCons
  rw [h1]
  dsimp only
  rw [hr]
theorem Ev.bndA {k : List D → Option W} (hs : EvL fs ρ ds) (h : k ds = some w) : Ev (bndA fs k) ρ w.d := by
  unfold Ev DL.bndA
  rw [hs]
  dsimp only
  rw [h]
  exact ⟨w, rfl, rfl⟩
theorem Evl.bndA {k : List D → Option W} {es : List D} (hs : EvL fs ρ ds) (h : k ds = some (.frs es)) : Evl (bndA fs k) ρ es := by
  unfold Evl DL.bndA
  rw [hs]
  dsimp only
  rw [h]
  rfl
/-- a function's answer over plain arguments -/
def Fr (F : List Sl → RF) (ds : List D) (d : D) : Prop := ∃ w, F (ds.map .pu) = .ok w [] ∧ w.d = d
def FrL (F : List Sl → RF) (ds : List D) (es : List D) : Prop := F (ds.map .pu) = .ok (.frs es) []
theorem FrL.fr {F : List Sl → RF} {es : List D} (h : FrL F ds es) : Fr F ds (.list es) := ⟨_, h, rfl⟩
theorem Ev.callG {n : Nat} {π : List D → List D} {F : List Sl → RF} (hs : EvL fs ρ ds) (hF : Fr F (π ds) d) (hn : ds.length = n) : Ev (fCallG n π F fs) ρ d := by
  obtain ⟨w, h, rfl⟩ := hF
  unfold Ev fCallG
  rw [hs]
  dsimp only
  rw [if_pos hn, h]
  exact ⟨w, rfl, rfl⟩
theorem Ev.call {n : Nat} {F : List Sl → RF} (hs : EvL fs ρ ds) (hF : Fr F ds d) (hn : ds.length = n) : Ev (fCall n F fs) ρ d := Ev.callG (π := id) hs hF hn
theorem Evl.call {n : Nat} {F : List Sl → RF} {es : List D} (hs : EvL fs ρ ds) (hF : FrL F ds es) (hn : ds.length = n) : Evl (fCall n F fs) ρ es := by
  unfold Evl fCall fCallG
  rw [hs]
  dsimp only
  rw [if_pos hn]
  show retC (F (ds.map .pu)) ρ = _
  rw [hF]
  rfl
end
/-! ### statements -/
/-- a suite's answer, nothing owned behind it -/
def Rt (g : Env → RS) (ρ : Env) (d : D) : Prop := ∃ w ρ', g ρ = .ret w ρ' ∧ w.d = d ∧ colE ρ' = []
def RtL (g : Env → RS) (ρ : Env) (ds : List D) : Prop := ∃ ρ', g ρ = .ret (.frs ds) ρ' ∧ colE ρ' = []
def Nx (g : Env → RS) (ρ ρ1 : Env) : Prop := g ρ = .nx ρ1
def Er (g : Env → RS) (ρ : Env) (c : Addr) (d : D) : Prop := g ρ = .err c d
section
variable {ρ ρ1 : Env} {fa fc : Env → RE} {f g h : Env → RS} {d e : D} {ds es : List D} {cc : Addr} {i : Nat}
theorem RtL.rt (h : RtL g ρ ds) : Rt g ρ (.list ds) := by
  obtain ⟨ρ', h1, h2⟩ := h
  exact ⟨_, _, h1, rfl, h2⟩
theorem Rt.ret (ha : Ev fa ρ d) (hc : colE ρ = []) : Rt (sRet fa) ρ d := by
  obtain ⟨w, h1, rfl⟩ := ha
  refine ⟨w, ρ, ?_, rfl, hc⟩
  unfold sRet sE
  rw [h1]
theorem RtL.ret (ha : Evl fa ρ ds) (hc : colE ρ = []) : RtL (sRet fa) ρ ds := by
  refine ⟨ρ, ?_, hc⟩
  unfold sRet sE
  rw [show fa ρ = _ from ha]
theorem Rt.seq (hf : Nx f ρ ρ1) (hg : Rt g ρ1 d) : Rt (sSeq f g) ρ d := by
  obtain ⟨w, ρ', h1, h2, h3⟩ := hg
  refine ⟨w, ρ', ?_, h2, h3⟩
  unfold sSeq
  rw [show f ρ = .nx ρ1 from hf]
  exact h1
theorem RtL.seq (hf : Nx f ρ ρ1) (hg : RtL g ρ1 ds) : RtL (sSeq f g) ρ ds := by
  obtain ⟨ρ', h1, h2⟩ := hg
  refine ⟨ρ', ?_, h2⟩
  unfold sSeq
  rw [show f ρ = .nx ρ1 from hf]
  exact h1
theorem Rt.now (hf : Rt f ρ d) : Rt (sSeq f g) ρ d := by
  obtain ⟨w, ρ', h1, h2, h3⟩ := hf
  refine ⟨w, ρ', ?_, h2, h3⟩
  unfold sSeq
  rw [h1]
theorem Nx.seq {ρ2 : Env} (hf : Nx f ρ ρ1) (hg : Nx g ρ1 ρ2) : Nx (sSeq f g) ρ ρ2 := by
  unfold Nx sSeq
  rw [show f ρ = .nx ρ1 from hf]
  exact hg
theorem Er.seq (hf : Nx f ρ ρ1) (hg : Er g ρ1 c d) : Er (sSeq f g) ρ c d := by
  unfold Er sSeq
  rw [show f ρ = .nx ρ1 from hf]
  exact hg
theorem Er.now (hf : Er f ρ c d) : Er (sSeq f g) ρ c d := by
  unfold Er sSeq
  rw [show f ρ = .err c d from hf]
theorem if_eq {x : Bool} (hc : Ev fc ρ (.bool x)) : sIf fc f g ρ = if x then f ρ else g ρ := by
  obtain ⟨w, h1, h2⟩ := hc
  unfold sIf sE
  rw [h1]
  dsimp only
  rw [h2]
  cases x <;> rfl
theorem Rt.if {x : Bool} (hc : Ev fc ρ (.bool x)) (h1 : x = true → Rt f ρ d) (h2 : x = false → Rt g ρ d) : Rt (sIf fc f g) ρ d := by
  unfold Rt
  rw [if_eq hc]
  cases x with
  | true => exact h1 rfl
  | false => exact h2 rfl
theorem Nx.if {x : Bool} (hc : Ev fc ρ (.bool x)) (h1 : x = true → Nx f ρ ρ1) (h2 : x = false → Nx g ρ ρ1) : Nx (sIf fc f g) ρ ρ1 := by
  unfold Nx
  rw [if_eq hc]
  cases x with
  | true => exact h1 rfl
  | false => exact h2 rfl
theorem Er.if {x : Bool} (hc : Ev fc ρ (.bool x)) (h1 : x = true → Er f ρ c d) (h2 : x = false → Er g ρ c d) : Er (sIf fc f g) ρ c d := by
  unfold Er
  rw [if_eq hc]
  cases x with
  | true => exact h1 rfl
  | false => exact h2 rfl
theorem Nx.nx : Nx .nx ρ ρ := rfl
/-- a guard: if x: return .. -/
theorem Rt.guard {x : Bool} (hc : Ev fc ρ (.bool x)) (h1 : x = true → Rt f ρ d) (h2 : x = false → Rt g ρ d) : Rt (sSeq (sIf fc f .nx) g) ρ d := by
  cases x with
  | true => exact .now (.if hc h1 fun z => nomatch z)
  | false => exact .seq (.if hc (fun z => nomatch z) fun _ => .nx) (h2 rfl)
theorem Nx.put (ha : Ev fa ρ d) : Nx (sPut i fa) ρ (ρ.set i (some (.pub 0 d))) := by
  obtain ⟨w, h1, rfl⟩ := ha
  unfold Nx sPut sE
  rw [h1]
theorem Nx.drop (ha : Ev fa ρ d) : Nx (sDrop fa) ρ ρ := by
  obtain ⟨w, h1, rfl⟩ := ha
  unfold Nx sDrop sE
  rw [h1]
theorem Er.drop (ha : fa ρ = .err c d) : Er (sDrop fa) ρ c d := by
  unfold Er sDrop sE
  rw [ha]
theorem Nx.bind {bd : D → Env → Option Env} (ha : Ev fa ρ d) (h : bd d ρ = some ρ1) : Nx (sBind bd fa) ρ ρ1 := by
  obtain ⟨w, h1, rfl⟩ := ha
  unfold Nx sBind sE
  rw [h1]
  dsimp only
  rw [h]
theorem Er.raise {fs : Env → RL} (ha : EvL fs ρ [d]) : Er (sRaise c fs) ρ c d := by
  unfold Er sRaise
  rw [show fs ρ = .ok [d] ρ from ha]
end
/-! ### functions -/
section
variable {n : Nat} {g : Env → RS} {ds es : List D} {d : D} {c : Addr} {ρ1 : Env}
abbrev args (n : Nat) (ds : List D) : Env := (ds.map Sl.pu).map some ++ List.replicate (n - ds.length) none
theorem fr_of (h : Rt g (args n ds) d) : Fr (fnF n g) ds d := by
  obtain ⟨w, ρ', h1, h2, h3⟩ := h
  refine ⟨w, ?_, h2⟩
  unfold fnF
  rw [List.length_map, h1]
  dsimp only
  rw [h3, colE_args0]
  rfl
theorem frL_of (h : RtL g (args n ds) es) : FrL (fnF n g) ds es := by
  obtain ⟨ρ', h1, h3⟩ := h
  unfold FrL fnF
  rw [List.length_map, h1]
  dsimp only
  rw [h3, colE_args0]
  rfl
theorem fr_nx (h : Nx g (args n ds) ρ1) (hc : colE ρ1 = []) : Fr (fnF n g) ds .none := by
  refine ⟨.pu .none, ?_, rfl⟩
  unfold fnF
  rw [List.length_map, show g _ = .nx ρ1 from h]
  dsimp only
  rw [hc, colE_args0]
  rfl
def FrE (F : List Sl → RF) (ds : List D) (c : Addr) (d : D) : Prop := F (ds.map .pu) = .err c d
theorem frE_of (h : Er g (args n ds) c d) : FrE (fnF n g) ds c d := by
  unfold FrE fnF
  rw [List.length_map, show g _ = .err c d from h]
theorem callE {F : List Sl → RF} {fs : Env → RL} {ρ : Env} (hs : EvL fs ρ ds) (hF : FrE F ds c d) (hn : ds.length = n) : fCall n F fs ρ = .err c d := by
  unfold fCall fCallG
  rw [hs]
  dsimp only
  rw [if_pos hn]
  show retC (F (ds.map .pu)) ρ = _
  rw [hF]
  rfl
end
/-! ### comprehensions -/
theorem lc_pure {bind : D → Env → Option Env} {ft fe : Env → RE} {vs : List Nat} {ρ : Env} (p : D → Bool) (fn : D → D) : ∀ (items acc : List D), acc.length + items.length ≤ sizeLine →
    (∀ d ∈ items, ∃ ρ1, bind d ρ = some ρ1 ∧ Ev ft ρ1 (.bool (p d)) ∧ (p d = true → Ev fe ρ1 (fn d)) ∧ wipeE ρ1 vs = ρ) → lcGo bind ft fe vs items acc ρ = .ok (.frs (acc ++ (items.filter p).map fn)) ρ
  | [], acc, _, _ => by simp [lcGo]
  | d :: r, acc, hl, h => by
    obtain ⟨ρ1, h1, ⟨w, h2, h2'⟩, h3, h4⟩ := h d List.mem_cons_self
    have hl2 : acc.length + r.length + 1 ≤ sizeLine := by simpa [Nat.add_assoc] using hl
    unfold lcGo
    rw [h1]
    dsimp only
    rw [h2]
    dsimp only
    rw [h2']
    cases e : p d with
    | true =>
      obtain ⟨w3, h5, h6⟩ := h3 e
      dsimp only
      rw [h5]
      dsimp only
      rw [if_pos (by omega), h4, lc_pure p fn r (acc ++ [w3.d]) (by simp; omega) fun d hd => h d (List.mem_cons_of_mem _ hd)]
      simp [e, h6]
    | false =>
      dsimp only
      rw [h4, lc_pure p fn r acc (by omega) fun d hd => h d (List.mem_cons_of_mem _ hd)]
      simp [e]
theorem evl_lc {src : Env → RI} {bind : D → Env → Option Env} {ft fe : Env → RE} {vs : List Nat} {ρ : Env} {items : List D} (p : D → Bool) (fn : D → D) (hs : src ρ = .ok items ρ) (hw : wipeE ρ vs = ρ) (hl : items.length ≤ sizeLine)
    (h : ∀ d ∈ items, ∃ ρ1, bind d ρ = some ρ1 ∧ Ev ft ρ1 (.bool (p d)) ∧ (p d = true → Ev fe ρ1 (fn d)) ∧ wipeE ρ1 vs = ρ) : Evl (fLc src bind ft fe vs) ρ ((items.filter p).map fn) := by
  unfold Evl fLc
  rw [hs]
  dsimp only
  rw [hw, lc_pure p fn items [] (by simpa using hl) h]
  rfl
theorem srcE_ok {fa : Env → RE} {k : D → Option (List D)} {ρ : Env} {d : D} {items : List D} (ha : Ev fa ρ d) (h : k d = some items) : srcE fa k ρ = .ok items ρ := by
  obtain ⟨w, h1, rfl⟩ := ha
  unfold srcE
  rw [h1]
  dsimp only
  rw [h]
theorem srcA_ok {fs : Env → RL} {k : List D → Option (List D)} {ρ : Env} {ds : List D} {items : List D} (ha : EvL fs ρ ds) (h : k ds = some items) : srcA fs k ρ = .ok items ρ := by
  unfold srcA
  rw [show fs ρ = _ from ha]
  dsimp only
  rw [h]
/-! ### loops -/
/-- a loop that keeps I, or an item at which it returns -/
theorem for_find {bind : D → Env → Option Env} {body : Env → RS} (I : Env → Prop) (p : D → Prop) (R : D → W → Env → Prop) : ∀ (items : List D) (ρ : Env), I ρ →
    (∀ d ∈ items, ∀ ρ, I ρ → ∃ ρ1, bind d ρ = some ρ1 ∧ ((¬ p d ∧ ∃ ρ2, body ρ1 = .nx ρ2 ∧ I ρ2) ∨ (p d ∧ ∃ w ρ2, body ρ1 = .ret w ρ2 ∧ R d w ρ2))) →
    (∃ ρ', forGo bind body items ρ = .nx ρ' ∧ I ρ' ∧ ∀ d ∈ items, ¬ p d) ∨ ∃ d ∈ items, p d ∧ ∃ w ρ2, forGo bind body items ρ = .ret w ρ2 ∧ R d w ρ2
  | [], ρ, hI, _ => .inl ⟨ρ, rfl, hI, fun d hd => absurd hd (by simp)⟩
  | d :: r, ρ, hI, h => by
    obtain ⟨ρ1, h1, h2⟩ := h d List.mem_cons_self ρ hI
    unfold forGo
    rw [h1]
    dsimp only
    rcases h2 with ⟨np, ρ2, h3, h4⟩ | ⟨hp, w, ρ2, h3, h4⟩
    · rw [h3]
      dsimp only
      rcases for_find I p R r ρ2 h4 fun d hd => h d (List.mem_cons_of_mem _ hd) with ⟨ρ', q1, q2, q3⟩ | ⟨d', hd', q1, q2⟩
      · exact .inl ⟨ρ', q1, q2, fun d' hd' => by
          rcases List.mem_cons.mp hd' with e | e
          · rw [e]; exact np
          · exact q3 d' e⟩
      · exact .inr ⟨d', List.mem_cons_of_mem _ hd', q1, q2⟩
    · rw [h3]
      exact .inr ⟨d, List.mem_cons_self, hp, w, ρ2, rfl, h4⟩
/-- a loop over a list that is carried: J (what is left) (slots) -/
theorem for_inv {bind : D → Env → Option Env} {body : Env → RS} (J : List D → Env → Prop) (Z : RS → Prop) : ∀ (items : List D) (ρ : Env), J items ρ →
    (∀ d r ρ, J (d :: r) ρ → ∃ ρ1, bind d ρ = some ρ1 ∧ ((∃ ρ2, body ρ1 = .nx ρ2 ∧ J r ρ2) ∨ (∃ w ρ2, body ρ1 = .ret w ρ2 ∧ Z (.ret w ρ2)))) → (∀ ρ, J [] ρ → Z (.nx ρ)) → Z (forGo bind body items ρ)
  | [], ρ, hJ, _, hz => hz ρ hJ
  | d :: r, ρ, hJ, h, hz => by
    obtain ⟨ρ1, h1, h2⟩ := h d r ρ hJ
    unfold forGo
    rw [h1]
    dsimp only
    rcases h2 with ⟨ρ2, h3, h4⟩ | ⟨w, ρ2, h3, h4⟩
    · rw [h3]
      exact for_inv J Z r ρ2 h4 h hz
    · rw [h3]
      exact h4
end DL
/-! M2: the program's defs of k54, what they answer. -/
namespace K54
open PySem L2 PyProof.Rows DL GM
abbrev iD (i : Int) : D := .int i
def isWh : D → Bool
  | .int _ => true
  | _ => false
def isCt : D → Bool
  | .int i => decide (0 ≤ i)
  | _ => false
theorem dOk_cases {d : D} (h : dOk d = true) : (∀ l, d = .dict l → l = []) := fun l e => by
  subst e
  cases l with
  | nil => rfl
  | cons a b => cases h
theorem fr_is_whole {d : D} (h : dOk d = true) : Fr F_is_whole [d] (.bool (isWh d)) := by
  cases d with
  | dict l => cases dOk_cases h l rfl; exact ⟨_, rfl, rfl⟩
  | none => exact ⟨_, rfl, rfl⟩
  | bool b => exact ⟨_, rfl, rfl⟩
  | int i => exact ⟨_, rfl, rfl⟩
  | str x => exact ⟨_, rfl, rfl⟩
  | list l => exact ⟨_, rfl, rfl⟩
  | tuple l => exact ⟨_, rfl, rfl⟩
theorem fr_is_count {d : D} (h : dOk d = true) : Fr F_is_count [d] (.bool (isCt d)) := by
  refine fr_of ?_
  have q : (isCt d) = (isWh d && isCt d) := by cases d <;> rfl
  rw [q]
  refine .ret (.and (.call (.cons (.var rfl) .nil) (fr_is_whole h) rfl) fun e => ?_) rfl
  cases d with
  | int i => exact Ev.op2 (w := .pu (.bool (decide (0 ≤ i)))) (.var rfl) .k rfl
  | _ => cases e
theorem l_is_count {d : D} (h : dOk d = true) : Fr F_l_is_count [d] (.bool (isCt d)) := by
  cases d with
  | dict l => cases dOk_cases h l rfl; exact ⟨_, rfl, rfl⟩
  | none => exact ⟨_, rfl, rfl⟩
  | bool b => exact ⟨_, rfl, rfl⟩
  | int i => exact ⟨_, rfl, rfl⟩
  | str x => exact ⟨_, rfl, rfl⟩
  | list l => exact ⟨_, rfl, rfl⟩
  | tuple l => exact ⟨_, rfl, rfl⟩
theorem filt_nil {xs : List Int} (h : ∀ x ∈ xs, 0 ≤ x) : ((xs.map PyData.int).filter fun d => !isCt d) = [] := by
  rw [List.filter_eq_nil_iff]
  intro d hd
  obtain ⟨x, hx, e⟩ := List.mem_map.mp hd
  rw [← e]
  simp [isCt, h x hx]
theorem eq_nil : gEq (.list []) (.list []) = some (.pu (.bool true)) := by rfl
theorem ne_nil : gNe (.list []) (.list []) = some (.pu (.bool false)) := by rfl
theorem len_list {ds : List D} : gLen [.list ds] = some (.pu (.int ds.length)) := rfl
/-- a list of counts: no one is none -/
theorem fr_are_counts {r : List Int} (h1 : 1 ≤ r.length) (h6 : r.length ≤ 6) (h : ∀ x ∈ r, 0 ≤ x) : Fr F_are_counts [rowD r] (.bool true) := by
  have hl : ((r.map PyData.int).length : Int) = (r.length : Nat) := by rw [List.length_map]
  refine fr_of (Rt.guard (x := false) ?_ (fun z => nomatch z) fun _ => ?_)
  · refine Ev.or (x := false) (y := false) (Ev.not (x := true) (Ev.op1 (w := .pu (.bool true)) (.var rfl) rfl)) fun _ => Ev.not (x := true) ?_
    have q := Ev.chain (g := gLe) (g' := gLe) (x := decide ((1 : Int) ≤ (r.map PyData.int).length)) (w := .pu (.bool (decide (((r.map PyData.int).length : Int) ≤ 6)))) (fa := fC (.int 1)) (fb := bndA (fCons (fVar 0) (fNil)) gLen) (fc := fC (.int 6)) (ρ := args 2 [rowD r]) (c := .int 6) Ev.k (Ev.bndA (EvL.cons (.var rfl) .nil) len_list) rfl fun _ => ⟨.k, rfl⟩
    rw [show decide ((1 : Int) ≤ (r.map PyData.int).length) = true from decide_eq_true (by rw [hl]; omega), if_pos rfl, show W.d (.pu (.bool (decide (((r.map PyData.int).length : Int) ≤ 6)))) = .bool true from by
      show PyData.bool _ = _
      rw [show decide (((r.map PyData.int).length : Int) ≤ 6) = true from decide_eq_true (by rw [hl]; omega)]] at q
    exact q
  · refine .ret ?_ rfl
    refine Ev.op2 (w := .pu (.bool true)) (a := .list []) (b := .list []) ?_ (Ev.bndA (w := .frs []) .nil rfl) eq_nil
    have z := evl_lc (src := srcE (fVar 0) itemsL) (bind := bName 1) (ft := fNot (fCall 1 F_is_count (fCons (fVar 1) (fNil)))) (fe := fVar 1) (vs := [1]) (ρ := args 2 [rowD r]) (items := r.map .int) (fun d => !isCt d) id (srcE_ok (.var rfl) rfl) rfl (by rw [List.length_map]; exact Nat.le_trans h6 (by decide)) fun d hd => by
      obtain ⟨x, hx, rfl⟩ := List.mem_map.mp hd
      exact ⟨_, rfl, .not (.call (.cons (.var rfl) .nil) (fr_is_count rfl) rfl), fun _ => .var rfl, rfl⟩
    rw [filt_nil h] at z
    exact z.ev
theorem lc_bad {r : List Int} {ρ : DL.Env} {i j m : Nat} (h : ∀ x ∈ r, 0 ≤ x) (hl : r.length ≤ sizeLine) (e : ρ[i]? = some (some (.pub m (rowD r)))) (hj : ρ[j]? = some none) : Ev (fLc (srcE (fVar i) itemsL) (bName j) (fNot (fCall 1 F_is_count (fCons (fVar j) (fNil)))) (fVar j) [j]) ρ (.list []) := by
  have hjl : j < ρ.length := (List.getElem?_eq_some_iff.mp hj).1
  have w : wipeE ρ [j] = ρ := by
    show ρ.set j none = ρ
    rw [← (List.getElem?_eq_some_iff.mp hj).2, List.set_getElem_self]
  have z := evl_lc (src := srcE (fVar i) itemsL) (bind := bName j) (ft := fNot (fCall 1 F_is_count (fCons (fVar j) (fNil)))) (fe := fVar j) (vs := [j]) (ρ := ρ) (items := r.map .int) (fun d => !isCt d) id (srcE_ok (.var e) rfl) w (by rw [List.length_map]; exact hl) fun d hd => by
    obtain ⟨x, hx, rfl⟩ := List.mem_map.mp hd
    have q : (ρ.set j (some (.pu (.int x))))[j]? = some (some (.pub 0 (.int x))) := List.getElem?_set_self hjl
    refine ⟨_, rfl, .not (.call (.cons (.var q) .nil) (fr_is_count rfl) rfl), fun _ => .var q, ?_⟩
    show (ρ.set j (some (.pu (.int x)))).set j none = ρ
    rw [List.set_set]; exact w
  rw [filt_nil h] at z
  exact z.ev
theorem ne_int {i j : Int} (h : i = j) : gNe (.int i) (.int j) = some (.pu (.bool false)) := by
  show gNe0 _ _ = _
  unfold gNe0
  simp [SeqAt.shaped, PyData.canLay0, PyData.depth, PyData.eqv, h]
theorem fr_is_grid_of {R C : Nat} {g : Grid} (G : Rect R C g) (n : NN g) (hR : R ≤ 6) (hC : C ≤ 6) : Fr F_is_grid_of [gridD g, .int R, .int C] (.bool true) := by
  refine fr_of (Rt.guard (x := false) ?_ (fun z => nomatch z) fun _ => ?_)
  · refine Ev.or (x := false) (y := false) (Ev.not (x := true) (Ev.op1 (w := .pu (.bool true)) (.var rfl) rfl)) fun _ => ?_
    exact Ev.op2 (w := .pu (.bool false)) (Ev.bndA (EvL.cons (.var rfl) .nil) len_list) (.var rfl) (ne_int (by rw [List.length_map, G.len]))
  · have key := for_find (bind := bName 3) (body := sIf (fOr (fNot (fOp1 (gIsi "list") (fVar 3))) (fOr (fOp2 gNe (bndA (fCons (fVar 3) (fNil)) gLen) (fVar 2)) (fOp2 gNe (fLc (srcE (fVar 3) itemsL) (bName 4) (fNot (fCall 1 F_is_count (fCons (fVar 4) (fNil)))) (fVar 4) [4]) (bndA (fNil) gMkL)))) (sRet (fC (.bool false))) (.nx))
      (fun ρ => ∃ x3, isPub x3 ∧ ρ = [some (.pu (gridD g)), some (.pu (.int R)), some (.pu (.int C)), x3, none]) (fun _ => False) (fun _ _ _ => True) (g.map rowD) (args 5 [gridD g, .int R, .int C]) ⟨none, (fun _ _ z => nomatch z), rfl⟩ fun d hd ρ hI => by
        obtain ⟨x3, p3, rfl⟩ := hI
        obtain ⟨r, hr, rfl⟩ := List.mem_map.mp hd
        refine ⟨_, rfl, .inl ⟨fun z => z, _, Nx.if (x := false) ?_ (fun z => nomatch z) fun _ => .nx, some (.pu (rowD r)), (fun _ _ z => nomatch z), rfl⟩⟩
        have hl : r.length = C := G.row r hr
        refine Ev.or (x := false) (y := false) (Ev.not (x := true) (Ev.op1 (w := .pu (.bool true)) (.var rfl) rfl)) fun _ => ?_
        refine Ev.or (x := false) (y := false) (Ev.op2 (w := .pu (.bool false)) (Ev.bndA (EvL.cons (.var rfl) .nil) len_list) (.var rfl) (ne_int (by rw [List.length_map, hl]))) fun _ => ?_
        exact Ev.op2 (w := .pu (.bool false)) (lc_bad (n.mem r hr) (by rw [hl]; exact Nat.le_trans hC (by decide)) rfl rfl) (Ev.bndA (w := .frs []) .nil rfl) ne_nil
    rcases key with ⟨ρ', h1, ⟨x3, p3, rfl⟩, _⟩ | ⟨d, _, z, _⟩
    · refine Rt.seq (ρ1 := [some (.pu (gridD g)), some (.pu (.int R)), some (.pu (.int C)), x3, none]) ?_ (.ret .k ?_)
      · unfold Nx sFor
        rw [srcE_ok (.var (m := 0) (d := gridD g) rfl) rfl]
        exact h1
      · refine colE_pubs fun o ho t ds => ?_
        simp only [List.mem_cons, List.not_mem_nil, or_false] at ho
        rcases ho with rfl | rfl | rfl | rfl | rfl
        · exact fun z => nomatch z
        · exact fun z => nomatch z
        · exact fun z => nomatch z
        · exact p3 t ds
        · exact fun z => nomatch z
    · exact z.elim
theorem atI_nat {α : Type} {xs : List α} {i : Nat} {x : α} (h : xs[i]? = some x) : atI xs (i : Int) = some x := by
  have hl : i < xs.length := (List.getElem?_eq_some_iff.mp h).1
  unfold atI ixN
  rw [if_pos (by omega), if_pos (by omega)]
  show xs[((i : Int)).toNat]? = _
  rw [Int.toNat_natCast]
  exact h
theorem row_at {R C : Nat} {g : Grid} (G : Rect R C g) {i : Nat} (hi : i < R) : (g.map rowD)[i]? = some (rowD (row g i)) := by
  rw [List.getElem?_map]
  unfold row
  rw [List.getElem?_eq_getElem (by rw [G.len]; exact hi)]
  rfl
theorem at_row {r : List Int} {j : Nat} (hj : j < r.length) : (r.map PyData.int)[j]? = some (.int (at0 r j)) := by
  rw [List.getElem?_map]
  unfold at0
  rw [List.getElem?_eq_getElem hj]
  rfl
/-- grid[i] -/
theorem ix_row {R C : Nat} {g : Grid} (G : Rect R C g) {i : Nat} (hi : i < R) : gIx (gridD g) (.int (i : Nat)) = some (.pu (rowD (row g i))) := by
  show (atI (g.map rowD) (i : Int)).map W.pu = _
  rw [atI_nat (row_at G hi)]
  rfl
theorem ix_at {r : List Int} {j : Nat} (hj : j < r.length) : gIx (rowD r) (.int (j : Nat)) = some (.pu (.int (at0 r j))) := by
  show (atI (r.map PyData.int) (j : Int)).map W.pu = _
  rw [atI_nat (at_row hj)]
  rfl
/-- grid[i][j] -/
theorem ev_cell {R C : Nat} {g : Grid} (G : Rect R C g) {i j : Nat} (hi : i < R) (hj : j < C) {ρ : DL.Env} {fa fb fc : DL.Env → RE} (ha : Ev fa ρ (gridD g)) (hb : Ev fb ρ (.int (i : Nat))) (hc : Ev fc ρ (.int (j : Nat))) : Ev (fOp2 gIx (fOp2 gIx fa fb) fc) ρ (.int (cell g i j)) :=
  Ev.op2 (w := .pu (.int (cell g i j))) (Ev.op2 (w := .pu (rowD (row g i))) ha hb (ix_row G hi)) hc (ix_at (by rw [G.rowLen hi]; exact hj))
/-- a grid that is one -/
structure Good (R C : Nat) (g : Grid) : Prop where
  G : Rect R C g
  n : NN g
  R1 : 1 ≤ R
  R6 : R ≤ 6
  C1 : 1 ≤ C
  C6 : C ≤ 6
theorem ev_row0 {R C : Nat} {g : Grid} (G : Good R C g) {ρ : DL.Env} {fa : DL.Env → RE} (ha : Ev fa ρ (gridD g)) : Ev (fOp2 gIx fa (fC (.int 0))) ρ (rowD (row g 0)) := Ev.op2 (w := .pu (rowD (row g 0))) ha .k (ix_row G.G G.R1)
theorem ev_len0 {R C : Nat} {g : Grid} (G : Good R C g) {ρ : DL.Env} {fa : DL.Env → RE} (ha : Ev fa ρ (gridD g)) : Ev (bndA (fCons (fOp2 gIx fa (fC (.int 0))) (fNil)) gLen) ρ (.int C) := by
  have z := Ev.bndA (k := gLen) (EvL.cons (ev_row0 G ha) .nil) len_list
  rw [List.length_map, G.G.rowLen G.R1] at z
  exact z
theorem ev_len {R C : Nat} {g : Grid} (G : Good R C g) {ρ : DL.Env} {fa : DL.Env → RE} (ha : Ev fa ρ (gridD g)) : Ev (bndA (fCons fa (fNil)) gLen) ρ (.int R) := by
  have z := Ev.bndA (k := gLen) (EvL.cons ha .nil) len_list
  rw [List.length_map, G.G.len] at z
  exact z
theorem row_nn {R C : Nat} {g : Grid} (G : Good R C g) {i : Nat} (hi : i < R) : ∀ x ∈ row g i, 0 ≤ x := by
  have hi' : i < g.length := by rw [G.G.len]; exact hi
  unfold row
  rw [List.getElem?_eq_getElem hi']
  exact G.n.mem _ (List.getElem_mem hi')
theorem fr_is_any_grid {R C : Nat} {g : Grid} (G : Good R C g) : Fr F_is_any_grid [gridD g] (.bool true) := by
  refine fr_of (Rt.guard (x := false) ?_ (fun z => nomatch z) fun _ => ?_)
  · refine Ev.or (x := false) (y := false) (Ev.not (x := true) (Ev.op1 (w := .pu (.bool true)) (.var rfl) rfl)) fun _ => Ev.or (x := false) (y := false) (Ev.not (x := true) ?_) fun _ => Ev.not (x := true) ?_
    · have q := Ev.chain (g := gLe) (g' := gLe) (x := decide ((1 : Int) ≤ (R : Nat))) (w := .pu (.bool (decide ((R : Int) ≤ 6)))) (fa := fC (.int 1)) (fb := bndA (fCons (fVar 0) (fNil)) gLen) (fc := fC (.int 6)) (ρ := args 1 [gridD g]) (c := .int 6) Ev.k (ev_len G (.var rfl)) rfl fun _ => ⟨.k, rfl⟩
      rw [show decide ((1 : Int) ≤ (R : Nat)) = true from decide_eq_true (by have := G.R1; omega), if_pos rfl, show W.d (.pu (.bool (decide ((R : Int) ≤ 6)))) = .bool true from by
        show PyData.bool _ = _
        rw [show decide ((R : Int) ≤ 6) = true from decide_eq_true (by have := G.R6; omega)]] at q
      exact q
    · refine Ev.call (.cons (ev_row0 G (.var rfl)) .nil) (fr_are_counts ?_ ?_ (row_nn G G.R1)) rfl
      · rw [G.G.rowLen G.R1]; exact G.C1
      · rw [G.G.rowLen G.R1]; exact G.C6
  · exact .ret (.call (.cons (.var rfl) (.cons (ev_len G (.var rfl)) (.cons (ev_len0 G (.var rfl)) .nil))) (fr_is_grid_of G.G G.n G.R6 G.C6) rfl) rfl
theorem fr_check_grid {R C : Nat} {g : Grid} {ca : Str → Addr} (G : Good R C g) : Fr (F_check_grid ca) [gridD g] .none :=
  fr_nx (ρ1 := args 1 [gridD g]) (Nx.if (x := false) (.not (x := true) (.call (.cons (.var rfl) .nil) (fr_is_any_grid G) rfl)) (fun z => nomatch z) fun _ => .nx) rfl
end K54
/-! M3: sums, swaps, what is behind them. -/
namespace DL
open PySem L2 PyProof.Rows
theorem lc_gen {α : Type} {bind : D → Env → Option Env} {ft fe : Env → RE} {vs : List Nat} {ρ : Env} (φ ψ : α → D) (p : α → Bool) : ∀ (xs : List α) (acc : List D), acc.length + xs.length ≤ sizeLine →
    (∀ x ∈ xs, ∃ ρ1, bind (φ x) ρ = some ρ1 ∧ Ev ft ρ1 (.bool (p x)) ∧ (p x = true → Ev fe ρ1 (ψ x)) ∧ wipeE ρ1 vs = ρ) → lcGo bind ft fe vs (xs.map φ) acc ρ = .ok (.frs (acc ++ (xs.filter p).map ψ)) ρ
  | [], acc, _, _ => by simp [lcGo]
  | x :: r, acc, hl, h => by
    obtain ⟨ρ1, h1, ⟨w, h2, h2'⟩, h3, h4⟩ := h x List.mem_cons_self
    have hl2 : acc.length + r.length + 1 ≤ sizeLine := by simpa [Nat.add_assoc] using hl
    rw [List.map_cons]
    unfold lcGo
    rw [h1]
    dsimp only
    rw [h2]
    dsimp only
    rw [h2']
    cases e : p x with
    | true =>
      obtain ⟨w3, h5, h6⟩ := h3 e
      dsimp only
      rw [h5]
      dsimp only
      rw [if_pos (by omega), h4, lc_gen φ ψ p r (acc ++ [w3.d]) (by simp; omega) fun d hd => h d (List.mem_cons_of_mem _ hd)]
      simp [e, h6]
    | false =>
      dsimp only
      rw [h4, lc_gen φ ψ p r acc (by omega) fun d hd => h d (List.mem_cons_of_mem _ hd)]
      simp [e]
theorem evl_gen {α : Type} {src : Env → RI} {bind : D → Env → Option Env} {ft fe : Env → RE} {vs : List Nat} {ρ : Env} (φ ψ : α → D) (p : α → Bool) (xs : List α) (hs : src ρ = .ok (xs.map φ) ρ) (hw : wipeE ρ vs = ρ) (hl : xs.length ≤ sizeLine)
    (h : ∀ x ∈ xs, ∃ ρ1, bind (φ x) ρ = some ρ1 ∧ Ev ft ρ1 (.bool (p x)) ∧ (p x = true → Ev fe ρ1 (ψ x)) ∧ wipeE ρ1 vs = ρ) : Evl (fLc src bind ft fe vs) ρ ((xs.filter p).map ψ) := by
  unfold Evl fLc
  rw [hs]
  dsimp only
  rw [hw, lc_gen φ ψ p xs [] (by simpa using hl) h]
  rfl
theorem evl_map {α : Type} {src : Env → RI} {bind : D → Env → Option Env} {fe : Env → RE} {vs : List Nat} {ρ : Env} (φ ψ : α → D) (xs : List α) (hs : src ρ = .ok (xs.map φ) ρ) (hw : wipeE ρ vs = ρ) (hl : xs.length ≤ sizeLine)
    (h : ∀ x ∈ xs, ∃ ρ1, bind (φ x) ρ = some ρ1 ∧ Ev fe ρ1 (ψ x) ∧ wipeE ρ1 vs = ρ) : Evl (fLc src bind (fC (.bool true)) fe vs) ρ (xs.map ψ) := by
  have z := evl_gen (src := src) (bind := bind) (ft := fC (.bool true)) (fe := fe) (vs := vs) (ρ := ρ) φ ψ (fun _ => true) xs hs hw hl fun x hx => by
    obtain ⟨ρ1, h1, h2, h3⟩ := h x hx
    exact ⟨ρ1, h1, .k, fun _ => h2, h3⟩
  rw [List.filter_eq_self.mpr fun _ _ => rfl] at z
  exact z
theorem sum_map (r : List Int) : gSum [.list (r.map .int)] = some (.pu (.int r.sum)) := by
  show (intsOf (r.map .int)).map _ = _
  rw [intsOf_map r]
  rfl
theorem rng1 {n : Nat} (h : n < 2 ^ 62) : kRng1 [.int (n : Nat)] = some ((List.range n).map fun i : Nat => .int (i : Nat)) := by
  have h1 : -(2 ^ 62) ≤ (n : Int) ∧ (n : Int) < 2 ^ 62 := by
    constructor
    · exact Int.le_trans (by decide) (Int.natCast_nonneg n)
    · exact Int.ofNat_lt.mpr h
  unfold kRng1
  simp only [h1, and_self, if_true, rngD, Int.toNat_natCast, Int.zero_add]
end DL
namespace K54
open PySem L2 PyProof.Rows DL GM
def marg (C : Nat) (g : Grid) : D := .tuple [.list ((g.map List.sum).map .int), .list (((List.range C).map fun j => csum g j).map .int)]
theorem sums_body {R C : Nat} {g : Grid} (G : Good R C g) : Ev (bndA (fCons (fLc (srcE (fVar 0) itemsL) (bName 1) (fC (.bool true)) (bndA (fCons (fVar 1) (fNil)) gSum) [1]) (fCons (fLc (srcA (fCons (bndA (fCons (fOp2 gIx (fVar 0) (fC (.int 0))) (fNil)) gLen) (fNil)) kRng1) (bName 2) (fC (.bool true)) (bndA (fCons (fLc (srcE (fVar 0) itemsL) (bName 1) (fC (.bool true)) (fOp2 gIx (fVar 1) (fVar 2)) [1]) (fNil)) gSum) [2]) (fNil))) gMkT) [some (.pu (gridD g)), none, none] (marg C g) := by
  have s6 : 6 ≤ sizeLine := by decide
  have h1 : Evl (fLc (srcE (fVar 0) itemsL) (bName 1) (fC (.bool true)) (bndA (fCons (fVar 1) (fNil)) gSum) [1]) [some (.pu (gridD g)), none, none] (g.map fun r => .int r.sum) :=
    evl_map rowD (fun r => .int r.sum) g (srcE_ok (.var (m := 0) (d := gridD g) rfl) rfl) rfl (by rw [G.G.len]; exact Nat.le_trans G.R6 s6) fun r hr => ⟨_, rfl, Ev.bndA (w := .pu (.int r.sum)) (.cons (.var rfl) .nil) (sum_map r), rfl⟩
  have h2 : Evl (fLc (srcA (fCons (bndA (fCons (fOp2 gIx (fVar 0) (fC (.int 0))) (fNil)) gLen) (fNil)) kRng1) (bName 2) (fC (.bool true)) (bndA (fCons (fLc (srcE (fVar 0) itemsL) (bName 1) (fC (.bool true)) (fOp2 gIx (fVar 1) (fVar 2)) [1]) (fNil)) gSum) [2]) [some (.pu (gridD g)), none, none] ((List.range C).map fun j => .int (csum g j)) :=
    evl_map (fun j : Nat => .int (j : Nat)) (fun j => .int (csum g j)) (List.range C) (srcA_ok (.cons (ev_len0 G (.var rfl)) .nil) (rng1 (Nat.lt_of_le_of_lt G.C6 (by decide)))) rfl (by rw [List.length_range]; exact Nat.le_trans G.C6 s6) fun j hj => by
      have hj' : j < C := List.mem_range.mp hj
      refine ⟨_, rfl, ?_, rfl⟩
      have h3 : Evl (fLc (srcE (fVar 0) itemsL) (bName 1) (fC (.bool true)) (fOp2 gIx (fVar 1) (fVar 2)) [1]) [some (.pu (gridD g)), none, some (.pu (.int (j : Nat)))] (g.map fun r => .int (at0 r j)) :=
        evl_map rowD (fun r => .int (at0 r j)) g (srcE_ok (.var (m := 0) (d := gridD g) rfl) rfl) rfl (by rw [G.G.len]; exact Nat.le_trans G.R6 s6) fun r hr => ⟨_, rfl, Ev.op2 (w := .pu (.int (at0 r j))) (.var rfl) (.var rfl) (ix_at (by rw [G.G.row r hr]; exact hj')), rfl⟩
      exact Ev.bndA (w := .pu (.int (csum g j))) (.cons h3.ev .nil) (by
        have z := sum_map (col g j)
        unfold col at z
        rw [List.map_map] at z
        exact z)
  refine Ev.bndA (w := .pu (marg C g)) (.cons h1.ev (.cons h2.ev .nil)) ?_
  unfold marg
  rw [List.map_map, List.map_map]
  rfl
theorem fr_sums_of {R C : Nat} {g : Grid} (G : Good R C g) : Fr F_sums_of [gridD g] (marg C g) := fr_of (.ret (sums_body G) rfl)
theorem fr_l_margins {R C : Nat} {g : Grid} (G : Good R C g) : Fr F_l_margins [gridD g] (marg C g) := fr_of (.ret (sums_body G) rfl)
/-! ### equality of data -/
theorem lay_ints : ∀ xs : List Int, PyData.canLayAll0 (xs.map .int) = true
  | [] => rfl
  | x :: xs => by
    show (true && PyData.canLayAll0 (xs.map .int)) = true
    rw [lay_ints xs]; rfl
theorem dep_ints : ∀ xs : List Int, PyData.depthAll (xs.map .int) ≤ 1
  | [] => by simp [PyData.depthAll]
  | x :: xs => by
    have := dep_ints xs
    simp only [List.map_cons, PyData.depthAll, PyData.depth]
    omega
theorem eqv_ints : ∀ xs ys : List Int, PyData.eqvAll (xs.map .int) (ys.map .int) = decide (xs = ys)
  | [], [] => rfl
  | [], _ :: _ => by simp [PyData.eqvAll]
  | _ :: _, [] => by simp [PyData.eqvAll]
  | x :: xs, y :: ys => by
    simp only [List.map_cons, PyData.eqvAll, PyData.eqv, eqv_ints xs ys, List.cons.injEq]
    by_cases h : x = y <;> simp [h]
theorem eqv_row (xs ys : List Int) : PyData.eqv (rowD xs) (rowD ys) = decide (xs = ys) := by
  unfold rowD
  rw [PyData.eqv, eqv_ints]
theorem eqv_rows : ∀ g h : Grid, PyData.eqvAll (g.map rowD) (h.map rowD) = decide (g = h)
  | [], [] => rfl
  | [], _ :: _ => by simp [PyData.eqvAll]
  | _ :: _, [] => by simp [PyData.eqvAll]
  | x :: xs, y :: ys => by
    rw [List.map_cons, List.map_cons, PyData.eqvAll, eqv_row, eqv_rows xs ys]
    by_cases h : x = y <;> simp [h]
theorem eqv_grid (g h : Grid) : PyData.eqv (gridD g) (gridD h) = decide (g = h) := by
  unfold gridD
  rw [PyData.eqv, eqv_rows]
theorem lay_row (xs : List Int) : (rowD xs).canLay0 = true := by
  unfold rowD; simp only [PyData.canLay0]; exact lay_ints xs
theorem dep_row (xs : List Int) : (rowD xs).depth ≤ 2 := by
  have := dep_ints xs
  unfold rowD; simp only [PyData.depth]; omega
theorem lay_rows : ∀ g : Grid, PyData.canLayAll0 (g.map rowD) = true
  | [] => rfl
  | r :: g => by
    rw [List.map_cons, PyData.canLayAll0, lay_row, lay_rows g]; rfl
theorem dep_rows : ∀ g : Grid, PyData.depthAll (g.map rowD) ≤ 2
  | [] => by simp [PyData.depthAll]
  | r :: g => by
    have := dep_rows g
    have := dep_row r
    simp only [List.map_cons, PyData.depthAll]; omega
theorem lay_grid (g : Grid) : (gridD g).canLay0 = true := by
  unfold gridD; simp only [PyData.canLay0]; exact lay_rows g
theorem dep_grid (g : Grid) : (gridD g).depth ≤ 3 := by
  have := dep_rows g
  unfold gridD; simp only [PyData.depth]; omega
theorem shaped_of {d : D} (h1 : d.canLay0 = true) (h2 : d.depth ≤ 64) : SeqAt.shaped d = true := by
  unfold SeqAt.shaped
  rw [h1, decide_eq_true h2]; rfl
theorem shaped_grid (g : Grid) : SeqAt.shaped (gridD g) = true := shaped_of (lay_grid g) (Nat.le_trans (dep_grid g) (by decide))
theorem eq_grid (g h : Grid) : gEq (gridD g) (gridD h) = some (.pu (.bool (decide (g = h)))) := by
  show gEq0 _ _ = _
  unfold gEq0
  rw [shaped_grid, shaped_grid, eqv_grid]; rfl
theorem lay_marg (C : Nat) (g : Grid) : SeqAt.shaped (marg C g) = true := by
  have h1 := lay_ints (g.map List.sum)
  have h2 := lay_ints ((List.range C).map fun j => csum g j)
  have d1 := dep_ints (g.map List.sum)
  have d2 := dep_ints ((List.range C).map fun j => csum g j)
  refine shaped_of ?_ ?_
  · unfold marg
    simp only [PyData.canLay0, PyData.canLayAll0, h1, h2, Bool.and_self]
  · unfold marg
    simp only [PyData.depth, PyData.depthAll]
    omega
def sameM (C : Nat) (g h : Grid) : Bool := decide (g.map List.sum = h.map List.sum ∧ ((List.range C).map fun j => csum g j) = (List.range C).map fun j => csum h j)
theorem eqv_marg (C : Nat) (g h : Grid) : PyData.eqv (marg C g) (marg C h) = sameM C g h := by
  unfold marg sameM
  simp only [PyData.eqv, PyData.eqvAll, eqv_ints, Bool.and_true]
  rw [← Bool.decide_and]
theorem ne_marg (C : Nat) (g h : Grid) : gNe (marg C g) (marg C h) = some (.pu (.bool (!sameM C g h))) := by
  show gNe0 _ _ = _
  unfold gNe0
  rw [lay_marg, lay_marg, eqv_marg]; rfl
theorem eq_marg (C : Nat) (g h : Grid) : gEq (marg C g) (marg C h) = some (.pu (.bool (sameM C g h))) := by
  show gEq0 _ _ = _
  unfold gEq0
  rw [lay_marg, lay_marg, eqv_marg]; rfl
end K54
/-! M4: what is a swap, what is behind it. -/
namespace K54
open PySem L2 PyProof.Rows DL GM
theorem ne_intB {i j : Int} : gNe (.int i) (.int j) = some (.pu (.bool (!decide (i = j)))) := by
  show gNe0 _ _ = _
  unfold gNe0
  simp [SeqAt.shaped, PyData.canLay0, PyData.depth, PyData.eqv]
  rfl
theorem eq_intB {i j : Int} : gEq (.int i) (.int j) = some (.pu (.bool (decide (i = j)))) := by
  show gEq0 _ _ = _
  unfold gEq0
  simp [SeqAt.shaped, PyData.canLay0, PyData.depth, PyData.eqv]
  rfl
theorem lay_filter (p : D → Bool) : ∀ {ds : List D}, PyData.canLayAll0 ds = true → PyData.canLayAll0 (ds.filter p) = true
  | [], _ => rfl
  | d :: ds, h => by
    have h' : d.canLay0 = true ∧ PyData.canLayAll0 ds = true := by simpa [PyData.canLayAll0] using h
    rw [List.filter_cons]
    split
    · simp only [PyData.canLayAll0, h'.1, lay_filter p h'.2, Bool.and_self]
    · exact lay_filter p h'.2
theorem dep_filter (p : D → Bool) : ∀ ds : List D, PyData.depthAll (ds.filter p) ≤ PyData.depthAll ds
  | [] => Nat.le_refl _
  | d :: ds => by
    have := dep_filter p ds
    rw [List.filter_cons]
    split
    · simp only [PyData.depthAll]; omega
    · simp only [PyData.depthAll]; omega
theorem dOk_lay {d : D} (h : d.canLay0 = true) : dOk d = true := by
  cases d with
  | dict l => simp [PyData.canLay0] at h
  | _ => rfl
theorem lay_mem : ∀ {ds : List D}, PyData.canLayAll0 ds = true → ∀ d ∈ ds, d.canLay0 = true
  | [], _, d, hd => absurd hd (by simp)
  | x :: ds, h, d, hd => by
    have h' : x.canLay0 = true ∧ PyData.canLayAll0 ds = true := by simpa [PyData.canLayAll0] using h
    rcases List.mem_cons.mp hd with e | e
    · rw [e]; exact h'.1
    · exact lay_mem h'.2 d e
/-- a value that may stand for a swap -/
def vOk (v : D) : Prop := dOk v = true ∧ ∀ ds, v = .tuple ds → SeqAt.shaped (.tuple ds) = true
theorem shaped_tup {ds : List D} (h : SeqAt.shaped (.tuple ds) = true) : PyData.canLayAll0 ds = true ∧ PyData.depthAll ds ≤ 63 := by
  have h1 := SeqAt.canLay_of_shaped h
  have h2 := SeqAt.depth_of_shaped h
  simp only [PyData.canLay0] at h1
  simp only [PyData.depth] at h2
  exact ⟨h1, by omega⟩
theorem ne_list_nil {ds : List D} (h1 : PyData.canLayAll0 ds = true) (h2 : PyData.depthAll ds ≤ 63) : gNe (.list ds) (.list []) = some (.pu (.bool (!ds.isEmpty))) := by
  have e : SeqAt.shaped (.list ds) = true := shaped_of (by simp only [PyData.canLay0]; exact h1) (by simp only [PyData.depth]; omega)
  show gNe0 _ _ = _
  unfold gNe0
  rw [e, show SeqAt.shaped (.list []) = true from rfl]
  cases ds with
  | nil => simp [PyData.eqv, PyData.eqvAll]
  | cons a b => simp [PyData.eqv, PyData.eqvAll]
theorem eq_list_nil {ds : List D} (h1 : PyData.canLayAll0 ds = true) (h2 : PyData.depthAll ds ≤ 63) : gEq (.list ds) (.list []) = some (.pu (.bool ds.isEmpty)) := by
  have e : SeqAt.shaped (.list ds) = true := shaped_of (by simp only [PyData.canLay0]; exact h1) (by simp only [PyData.depth]; omega)
  show gEq0 _ _ = _
  unfold gEq0
  rw [e, show SeqAt.shaped (.list []) = true from rfl]
  cases ds with
  | nil => simp [PyData.eqv, PyData.eqvAll]
  | cons a b => simp [PyData.eqv, PyData.eqvAll]
def swP (R C : Nat) (g : Grid) (a b c d : Nat) : Prop := a < R ∧ b < R ∧ c < C ∧ d < C ∧ a ≠ b ∧ c ≠ d ∧ 1 ≤ cell g a d ∧ 1 ≤ cell g b c
instance {R C : Nat} {g : Grid} {a b c d : Nat} : Decidable (swP R C g a b c d) := by unfold swP; infer_instance
/-- is it a swap of the grid? -/
def swB (R C : Nat) (g : Grid) : D → Bool
  | .tuple [.int a, .int b, .int c, .int d] => decide (0 ≤ a ∧ 0 ≤ b ∧ 0 ≤ c ∧ 0 ≤ d ∧ swP R C g a.toNat b.toNat c.toNat d.toNat)
  | _ => false
def swD (a b c d : Nat) : D := .tuple [.int (a : Nat), .int (b : Nat), .int (c : Nat), .int (d : Nat)]
theorem swB_len {R C : Nat} {g : Grid} {ds : List D} (h : swB R C g (.tuple ds) = true) : ds.length = 4 := by
  unfold swB at h
  split at h
  · rename_i q
    cases q
    rfl
  · cases h
theorem swB_nat {R C : Nat} {g : Grid} {a b c d : Nat} : swB R C g (swD a b c d) = decide (swP R C g a b c d) := by
  unfold swD swB
  simp
theorem isCt_nat {d : D} (h : isCt d = true) : ∃ n : Nat, d = .int (n : Nat) := by
  cases d with
  | int i =>
    have q : 0 ≤ i := of_decide_eq_true h
    exact ⟨i.toNat, by rw [Int.toNat_of_nonneg q]⟩
  | _ => cases h
theorem swB_isCt {R C : Nat} {g : Grid} {x0 x1 x2 x3 : D} (h : swB R C g (.tuple [x0, x1, x2, x3]) = true) : isCt x0 = true ∧ isCt x1 = true ∧ isCt x2 = true ∧ isCt x3 = true := by
  cases x0 <;> cases x1 <;> cases x2 <;> cases x3 <;> simp [swB, isCt] at h ⊢
  exact ⟨h.1, h.2.1, h.2.2.1, h.2.2.2.1⟩
section
variable {R C : Nat} {g : Grid} {v : D} {F : List Sl → RF}
/-- the first guard of both defs: a tuple of four counts -/
theorem guard1 (hF : ∀ d, dOk d = true → Fr F [d] (.bool (isCt d))) (hv : vOk v) : ∃ x : Bool, Ev (fOr (fNot (fOp1 (gIsi "tuple") (fVar 1))) (fOr (fOp2 gNe (bndA (fCons (fVar 1) (fNil)) gLen) (fC (.int 4))) (fOp2 gNe (fLc (srcE (fVar 1) itemsT) (bName 2) (fNot (fCall 1 F (fCons (fVar 2) (fNil)))) (fVar 2) [2]) (bndA (fNil) gMkL)))) (args 7 [gridD g, v]) (.bool x) ∧
    ((x = true ∧ swB R C g v = false) ∨ (x = false ∧ ∃ a b c d, v = swD a b c d)) := by
  have notT : (∀ ds, v ≠ .tuple ds) → gIsi "tuple" v = some (.pu (.bool false)) ∧ swB R C g v = false := fun h => by
    cases v with
    | tuple ds => exact absurd rfl (h ds)
    | dict l => cases dOk_cases hv.1 l rfl; exact ⟨rfl, rfl⟩
    | _ => exact ⟨rfl, rfl⟩
  by_cases hT : ∃ ds, v = .tuple ds
  · obtain ⟨ds, rfl⟩ := hT
    obtain ⟨l1, l2⟩ := shaped_tup (hv.2 ds rfl)
    have e1 : Ev (fNot (fOp1 (gIsi "tuple") (fVar 1))) (args 7 [gridD g, .tuple ds]) (.bool false) := Ev.not (x := true) (Ev.op1 (w := .pu (.bool true)) (.var rfl) rfl)
    have e2 : Ev (fOp2 gNe (bndA (fCons (fVar 1) (fNil)) gLen) (fC (.int 4))) (args 7 [gridD g, .tuple ds]) (.bool (!decide ((ds.length : Int) = 4))) := Ev.op2 (w := .pu (.bool (!decide ((ds.length : Int) = 4)))) (Ev.bndA (w := .pu (.int ds.length)) (.cons (.var rfl) .nil) rfl) .k ne_intB
    by_cases h4 : ds.length = 4
    · have e3 : Ev (fOp2 gNe (fLc (srcE (fVar 1) itemsT) (bName 2) (fNot (fCall 1 F (fCons (fVar 2) (fNil)))) (fVar 2) [2]) (bndA (fNil) gMkL)) (args 7 [gridD g, .tuple ds]) (.bool (!((ds.filter fun d => !isCt d).map id).isEmpty)) := by
        have z := evl_gen (src := srcE (fVar 1) itemsT) (bind := bName 2) (ft := fNot (fCall 1 F (fCons (fVar 2) (fNil)))) (fe := fVar 2) (vs := [2]) (ρ := args 7 [gridD g, .tuple ds]) id id (fun d => !isCt d) ds (srcE_ok (.var rfl) (by rw [List.map_id]; rfl)) rfl (by rw [h4]; decide) fun d hd =>
          ⟨_, rfl, .not (.call (.cons (.var rfl) .nil) (hF d (dOk_lay (lay_mem l1 d hd))) rfl), fun _ => .var rfl, rfl⟩
        refine Ev.op2 (w := .pu (.bool (!((ds.filter fun d => !isCt d).map id).isEmpty))) z.ev (Ev.bndA (w := .frs []) .nil rfl) ?_
        rw [List.map_id]
        exact ne_list_nil (lay_filter _ l1) (Nat.le_trans (dep_filter _ _) l2)
      rw [List.map_id] at e3
      refine ⟨_, .or e1 fun _ => .or e2 fun _ => e3, ?_⟩
      have q4 : decide ((ds.length : Int) = 4) = true := decide_eq_true (by omega)
      rw [q4]
      match ds, h4 with
      | [x0, x1, x2, x3], _ =>
        cases hb : (([x0, x1, x2, x3].filter fun d => !isCt d)).isEmpty with
        | true =>
          refine .inr ⟨rfl, ?_⟩
          have q := List.filter_eq_nil_iff.mp (List.isEmpty_iff.mp hb)
          have ct : ∀ d ∈ [x0, x1, x2, x3], isCt d = true := fun d hd => by simpa using q d hd
          obtain ⟨a, rfl⟩ := isCt_nat (ct x0 (by simp))
          obtain ⟨b, rfl⟩ := isCt_nat (ct x1 (by simp))
          obtain ⟨c, rfl⟩ := isCt_nat (ct x2 (by simp))
          obtain ⟨d, rfl⟩ := isCt_nat (ct x3 (by simp))
          exact ⟨a, b, c, d, rfl⟩
        | false =>
          refine .inl ⟨rfl, ?_⟩
          cases hs : swB R C g (.tuple [x0, x1, x2, x3]) with
          | false => rfl
          | true =>
            obtain ⟨c0, c1, c2, c3⟩ := swB_isCt hs
            simp [c0, c1, c2, c3] at hb
    · refine ⟨_, .or e1 fun _ => .or (y := true) e2 fun z => ?_, .inl ⟨?_, ?_⟩⟩
      · have z' : (!decide ((ds.length : Int) = 4)) = false := z
        simp at z'
        omega
      · have q4 : decide ((ds.length : Int) = 4) = false := decide_eq_false (by omega)
        rw [q4]; rfl
      · cases hs : swB R C g (.tuple ds) with
        | false => rfl
        | true => exact absurd (swB_len hs) h4
  · obtain ⟨q1, q2⟩ := notT fun ds e => hT ⟨ds, e⟩
    exact ⟨true, Ev.or (x := true) (y := false) (Ev.not (x := false) (Ev.op1 (w := .pu (.bool false)) (.var rfl) q1)) (fun z => nomatch z), .inl ⟨rfl, q2⟩⟩
end
abbrev swEnv (g : Grid) (a b c d : Nat) : DL.Env := [some (.pu (gridD g)), some (.pu (swD a b c d)), none, some (.pu (.int (a : Nat))), some (.pu (.int (b : Nat))), some (.pu (.int (c : Nat))), some (.pu (.int (d : Nat)))]
section
variable {R C : Nat} {g : Grid} {a b c d : Nat}
theorem ev_ge {ρ : DL.Env} {fa fb : DL.Env → RE} {i j : Int} (ha : Ev fa ρ (.int i)) (hb : Ev fb ρ (.int j)) : Ev (fOp2 gGe fa fb) ρ (.bool (decide (j ≤ i))) := Ev.op2 (w := .pu (.bool (decide (j ≤ i)))) ha hb rfl
theorem ev_gt {ρ : DL.Env} {fa fb : DL.Env → RE} {i j : Int} (ha : Ev fa ρ (.int i)) (hb : Ev fb ρ (.int j)) : Ev (fOp2 gGt fa fb) ρ (.bool (decide (j < i))) := Ev.op2 (w := .pu (.bool (decide (j < i)))) ha hb rfl
theorem ev_lt {ρ : DL.Env} {fa fb : DL.Env → RE} {i j : Int} (ha : Ev fa ρ (.int i)) (hb : Ev fb ρ (.int j)) : Ev (fOp2 gLt fa fb) ρ (.bool (decide (i < j))) := Ev.op2 (w := .pu (.bool (decide (i < j)))) ha hb rfl
theorem ev_eqI {ρ : DL.Env} {fa fb : DL.Env → RE} {i j : Int} (ha : Ev fa ρ (.int i)) (hb : Ev fb ρ (.int j)) : Ev (fOp2 gEq fa fb) ρ (.bool (decide (i = j))) := Ev.op2 (w := .pu (.bool (decide (i = j)))) ha hb eq_intB
theorem ev_max {ρ : DL.Env} {fa fb : DL.Env → RE} {i j : Int} (ha : Ev fa ρ (.int i)) (hb : Ev fb ρ (.int j)) : Ev (bndA (fCons fa (fCons fb (fNil))) gMax2) ρ (.int (if j > i then j else i)) := Ev.bndA (w := .pu (.int (if j > i then j else i))) (.cons ha (.cons hb .nil)) rfl
theorem fr_is_swap {v : D} (G : Good R C g) (hv : vOk v) : Fr F_is_swap [gridD g, v] (.bool (swB R C g v)) := by
  obtain ⟨x, e, h⟩ := guard1 (R := R) (C := C) (g := g) (F := F_is_count) (fun d h => fr_is_count h) hv
  refine fr_of (Rt.guard e (fun z => ?_) fun z => ?_)
  · rcases h with ⟨_, q⟩ | ⟨q, _⟩
    · rw [q]; exact .ret .k rfl
    · rw [q] at z; cases z
  · rcases h with ⟨q, _⟩ | ⟨_, a, b, c, d, rfl⟩
    · rw [q] at z; cases z
    · refine Rt.seq (ρ1 := swEnv g a b c d) (Nx.bind (.var rfl) rfl) ?_
      rw [swB_nat]
      refine Rt.guard (.or (ev_ge (ev_max (.var rfl) (.var rfl)) (ev_len G (.var rfl))) fun _ => ev_ge (ev_max (.var rfl) (.var rfl)) (ev_len0 G (.var rfl))) (fun z => ?_) fun z => ?_
      · have : decide (swP R C g a b c d) = false := decide_eq_false fun ⟨h1, h2, h3, h4, _⟩ => by
          simp only [Bool.or_eq_true, decide_eq_true_eq] at z
          split at z <;> split at z <;> omega
        rw [this]; exact .ret .k rfl
      · simp only [Bool.or_eq_false_iff, decide_eq_false_iff_not] at z
        have h1 : a < R ∧ b < R ∧ c < C ∧ d < C := by
          split at z <;> split at z <;> omega
        obtain ⟨h1, h2, h3, h4⟩ := h1
        refine Rt.guard (.or (ev_eqI (.var rfl) (.var rfl)) fun _ => ev_eqI (.var rfl) (.var rfl)) (fun z => ?_) fun z => ?_
        · have : decide (swP R C g a b c d) = false := decide_eq_false fun ⟨_, _, _, _, h5, h6, _⟩ => by
            simp only [Bool.or_eq_true, decide_eq_true_eq] at z
            omega
          rw [this]; exact .ret .k rfl
        · simp only [Bool.or_eq_false_iff, decide_eq_false_iff_not] at z
          have h5 : a ≠ b ∧ c ≠ d := by omega
          have : decide (swP R C g a b c d) = (decide ((1 : Int) ≤ cell g a d) && decide ((1 : Int) ≤ cell g b c)) := by
            rw [← Bool.decide_and]
            exact decide_eq_decide.mpr ⟨fun ⟨_, _, _, _, _, _, h7, h8⟩ => ⟨h7, h8⟩, fun ⟨h7, h8⟩ => ⟨h1, h2, h3, h4, h5.1, h5.2, h7, h8⟩⟩
          rw [this]
          exact .ret (.and (ev_ge (ev_cell G.G h1 h4 (.var rfl) (.var rfl) (.var rfl)) .k) fun _ => ev_ge (ev_cell G.G h2 h3 (.var rfl) (.var rfl) (.var rfl)) .k) rfl
theorem fr_l_swap_ok {v : D} (G : Good R C g) (hv : vOk v) : Fr F_l_swap_ok [gridD g, v] (.bool (swB R C g v)) := by
  obtain ⟨x, e, h⟩ := guard1 (R := R) (C := C) (g := g) (F := F_l_is_count) (fun d h => l_is_count h) hv
  refine fr_of (Rt.guard e (fun z => ?_) fun z => ?_)
  · rcases h with ⟨_, q⟩ | ⟨q, _⟩
    · rw [q]; exact .ret .k rfl
    · rw [q] at z; cases z
  · rcases h with ⟨q, _⟩ | ⟨_, a, b, c, d, rfl⟩
    · rw [q] at z; cases z
    · refine Rt.seq (ρ1 := swEnv g a b c d) (Nx.bind (.var rfl) rfl) ?_
      rw [swB_nat]
      refine Rt.guard (.or (ev_ge (.var rfl) (ev_len G (.var rfl))) fun _ => .or (ev_ge (.var rfl) (ev_len G (.var rfl))) fun _ => .or (ev_ge (.var rfl) (ev_len0 G (.var rfl))) fun _ => .or (ev_ge (.var rfl) (ev_len0 G (.var rfl))) fun _ => .or (ev_eqI (.var rfl) (.var rfl)) fun _ => ev_eqI (.var rfl) (.var rfl)) (fun z => ?_) fun z => ?_
      · have : decide (swP R C g a b c d) = false := decide_eq_false fun ⟨h1, h2, h3, h4, h5, h6, _⟩ => by
          simp only [Bool.or_eq_true, decide_eq_true_eq] at z
          omega
        rw [this]; exact .ret .k rfl
      · simp only [Bool.or_eq_false_iff, decide_eq_false_iff_not] at z
        have h1 : a < R ∧ b < R ∧ c < C ∧ d < C ∧ a ≠ b ∧ c ≠ d := by omega
        obtain ⟨h1, h2, h3, h4, h5, h6⟩ := h1
        have : decide (swP R C g a b c d) = (decide ((0 : Int) < cell g a d) && decide ((0 : Int) < cell g b c)) := by
          rw [← Bool.decide_and]
          exact decide_eq_decide.mpr ⟨fun ⟨_, _, _, _, _, _, h7, h8⟩ => ⟨by omega, by omega⟩, fun ⟨h7, h8⟩ => ⟨h1, h2, h3, h4, h5, h6, by omega, by omega⟩⟩
        rw [this]
        exact .ret (.and (ev_gt (ev_cell G.G h1 h4 (.var rfl) (.var rfl) (.var rfl)) .k) fun _ => ev_gt (ev_cell G.G h2 h3 (.var rfl) (.var rfl) (.var rfl)) .k) rfl
/-! ### behind -/
theorem mod_set {α : Type} {l : List α} {i : Nat} {x : α} {f : α → α} (h : l[i]? = some x) : l.modify i f = l.set i (f x) := by
  refine List.ext_getElem? fun j => ?_
  rw [List.getElem?_modify, List.getElem?_set]
  by_cases e : i = j
  · subst e
    have hl := (List.getElem?_eq_some_iff.mp h).1
    rw [h]
    simp [hl]
  · simp [e]
theorem for_cons {bind : D → DL.Env → Option DL.Env} {body : DL.Env → RS} {d : D} {r : List D} {ρ ρ1 ρ2 : DL.Env} {o : RS} (b : bind d ρ = some ρ1) (s : body ρ1 = .nx ρ2) (t : forGo bind body r ρ2 = o) : forGo bind body (d :: r) ρ = o := by
  unfold forGo
  rw [b]
  dsimp only
  rw [s]
  exact t
theorem getG_nat (G : Rect R C g) (ha : a < R) (hb : b < C) : getG g (a : Nat) (b : Nat) = some (cell g a b) := by
  unfold getG
  have h1 : g[a]? = some (row g a) := by
    unfold row
    rw [List.getElem?_eq_getElem (by rw [G.len]; exact ha)]; rfl
  rw [atI_nat h1]
  show atI (row g a) (b : Int) = _
  refine atI_nat ?_
  unfold cell at0
  rw [List.getElem?_eq_getElem (by rw [G.rowLen ha]; exact hb)]; rfl
theorem ixN_nat {n i : Nat} (h : i < n) : ixN n (i : Int) = some i := by
  unfold ixN
  rw [if_pos (by omega), if_pos (by omega), Int.toNat_natCast]
theorem setG_nat (G : Rect R C g) (ha : a < R) (hb : b < C) (z : Int) : setG g (a : Nat) (b : Nat) (cell g a b + z) = some (addc g a b z) := by
  have hg : a < g.length := by rw [G.len]; exact ha
  have hr : b < (g[a]).length := by rw [G.row _ (List.getElem_mem hg)]; exact hb
  unfold setG
  rw [ixN_nat hg]
  simp only [Option.bind_some]
  rw [List.getElem?_eq_getElem hg]
  simp only [Option.bind_some]
  rw [ixN_nat hr]
  simp only [Option.map_some]
  congr 1
  unfold addc addr
  rw [mod_set (List.getElem?_eq_getElem hg), mod_set (List.getElem?_eq_getElem hr)]
  unfold cell at0 row
  rw [List.getElem?_eq_getElem hg]
  simp only [Option.getD_some]
  rw [List.getElem?_eq_getElem hr]
  rfl
theorem ev_ixN {ρ : DL.Env} {i j1 j2 m1 m2 : Nat} (G : Rect R C g) (ha : a < R) (hb : b < C) (h1 : ρ[i]? = some (some (.nst g))) (h2 : ρ[j1]? = some (some (.pub m1 (.int (a : Nat))))) (h3 : ρ[j2]? = some (some (.pub m2 (.int (b : Nat))))) : Ev (fIxN i j1 j2) ρ (.int (cell g a b)) := by
  unfold Ev fIxN
  rw [h1, h2, h3]
  dsimp only
  rw [getG_nat G ha hb]
  exact ⟨_, rfl, rfl⟩
theorem nx_setN {ρ : DL.Env} {fe : DL.Env → RE} {z : Int} {i j1 j2 m1 m2 : Nat} (G : Rect R C g) (ha : a < R) (hb : b < C) (h1 : ρ[i]? = some (some (.nst g))) (h2 : ρ[j1]? = some (some (.pub m1 (.int (a : Nat))))) (h3 : ρ[j2]? = some (some (.pub m2 (.int (b : Nat))))) (he : Ev fe ρ (.int (cell g a b + z))) : Nx (sSetN i j1 j2 fe) ρ (ρ.set i (some (.nst (addc g a b z)))) := by
  obtain ⟨w, e1, e2⟩ := he
  unfold Nx sSetN sE
  rw [e1]
  dsimp only
  rw [e2, h1, h2, h3]
  dsimp only
  rw [setG_nat G ha hb]
theorem nx_copy {ρ : DL.Env} {fa : DL.Env → RE} {i k : Nat} (ha : Ev fa ρ (gridD g)) (h1 : bare ρ = true) (h2 : k < ρ.length) (h3 : g.length ≤ sizeLine) : Nx (sCopy i k fa) ρ (ρ.set i (some (.nst g))) := by
  obtain ⟨w, e1, e2⟩ := ha
  unfold Nx sCopy
  rw [e1]
  dsimp only
  rw [e2, gridOf_grid]
  dsimp only
  rw [if_pos ⟨h1, h2, h3⟩]
theorem rtL_retN {ρ : DL.Env} {i : Nat} (h : ρ[i]? = some (some (.nst g))) (hc : colE (ρ.set i none) = []) : RtL (sRetN i) ρ (g.map rowD) := by
  refine ⟨_, ?_, hc⟩
  unfold sRetN
  rw [h]
theorem ev_addI {ρ : DL.Env} {fa fb : DL.Env → RE} {i j : Int} (ha : Ev fa ρ (.int i)) (hb : Ev fb ρ (.int j)) : Ev (fOp2 gAdd fa fb) ρ (.int (i + j)) := Ev.op2 (w := .pu (.int (i + j))) ha hb rfl
theorem ev_subI {ρ : DL.Env} {fa fb : DL.Env → RE} {i j : Int} (ha : Ev fa ρ (.int i)) (hb : Ev fb ρ (.int j)) : Ev (fOp2 gSub fa fb) ρ (.int (i - j)) := Ev.op2 (w := .pu (.int (i - j))) ha hb rfl
theorem fr_behind (G : Good R C g) (ha : a < R) (hb : b < R) (hc : c < C) (hd : d < C) : FrL F_behind [gridD g, swD a b c d] ((beh g a b c d).map rowD) := by
  have gl : g.length ≤ sizeLine := by rw [G.G.len]; exact Nat.le_trans G.R6 (by decide)
  let E (h : Grid) (x7 x8 x9 : Option Sl) : DL.Env := [some (.pu (gridD g)), some (.pu (swD a b c d)), some (.pu (.int (a : Nat))), some (.pu (.int (b : Nat))), some (.pu (.int (c : Nat))), some (.pu (.int (d : Nat))), some (.nst h), x7, x8, x9]
  have step : ∀ (h : Grid) (p q : Nat) (z : Int) (x7 x8 x9 : Option Sl), Rect R C h → p < R → q < C → ∃ ρ1, bTup [bName 7, bName 8, bName 9] (.tuple [.int (p : Nat), .int (q : Nat), .int z]) (E h x7 x8 x9) = some ρ1 ∧ sSetN 6 7 8 (fOp2 gAdd (fIxN 6 7 8) (fVar 9)) ρ1 = .nx (E (addc h p q z) (some (.pu (.int (p : Nat)))) (some (.pu (.int (q : Nat)))) (some (.pu (.int z)))) := fun h p q z x7 x8 x9 H hp hq =>
    ⟨_, rfl, nx_setN H hp hq (m1 := 0) (m2 := 0) rfl rfl rfl (ev_addI (ev_ixN H hp hq (m1 := 0) (m2 := 0) rfl rfl rfl) (.var rfl))⟩
  obtain ⟨r1, b1, s1⟩ := step g a c 1 none none none G.G ha hc
  obtain ⟨r2, b2, s2⟩ := step (addc g a c 1) b d 1 (some (.pu (.int (a : Nat)))) (some (.pu (.int (c : Nat)))) (some (.pu (.int 1))) (G.G.addc _ _ _) hb hd
  obtain ⟨r3, b3, s3⟩ := step (addc (addc g a c 1) b d 1) a d (-1) (some (.pu (.int (b : Nat)))) (some (.pu (.int (d : Nat)))) (some (.pu (.int 1))) ((G.G.addc _ _ _).addc _ _ _) ha hd
  refine frL_of (RtL.seq (ρ1 := [some (.pu (gridD g)), some (.pu (swD a b c d)), some (.pu (.int (a : Nat))), some (.pu (.int (b : Nat))), some (.pu (.int (c : Nat))), some (.pu (.int (d : Nat))), none, none, none, none]) (Nx.bind (.var rfl) rfl) ?_)
  refine RtL.seq (nx_copy (.var rfl) rfl (by show 7 < 10; decide) gl) ?_
  refine RtL.seq (ρ1 := E (addc (addc (addc g a c 1) b d 1) a d (-1)) (some (.pu (.int (a : Nat)))) (some (.pu (.int (d : Nat)))) (some (.pu (.int (-1))))) ?_ ?_
  · unfold Nx sFor
    rw [srcE_ok (d := .tuple [.tuple [.int (a : Nat), .int (c : Nat), .int 1], .tuple [.int (b : Nat), .int (d : Nat), .int 1], .tuple [.int (a : Nat), .int (d : Nat), .int (-1)]]) (items := [.tuple [.int (a : Nat), .int (c : Nat), .int 1], .tuple [.int (b : Nat), .int (d : Nat), .int 1], .tuple [.int (a : Nat), .int (d : Nat), .int (-1)]]) (by exact ⟨_, rfl, rfl⟩) rfl]
    exact for_cons b1 s1 (for_cons b2 s2 (for_cons b3 s3 rfl))
  · refine RtL.seq (nx_setN (((G.G.addc _ _ _).addc _ _ _).addc _ _ _) hb hc (m1 := 0) (m2 := 0) (z := -1) rfl rfl rfl (ev_subI (ev_ixN (((G.G.addc _ _ _).addc _ _ _).addc _ _ _) hb hc (m1 := 0) (m2 := 0) rfl rfl rfl) .k)) ?_
    exact rtL_retN rfl rfl
end
end K54
/-! M5: the next swap; swaps between two grids; which lists are such. -/
namespace K54
open PySem L2 PyProof.Rows DL GM
section
variable {R C : Nat} {g h : Grid} {a b c d : Nat}
theorem fr_l_behind (G : Good R C g) (hs : swP R C g a b c d) : FrL F_l_behind [gridD g, swD a b c d] ((beh g a b c d).map rowD) := by
  obtain ⟨ha, hb, hc, hd, hab, hcd, _, _⟩ := hs
  have gl : g.length ≤ sizeLine := by rw [G.G.len]; exact Nat.le_trans G.R6 (by decide)
  have G1 := G.G.addc a c 1
  have G2 := G1.addc b d 1
  have G3 := G2.addc a d (-1)
  let E (h : Grid) : DL.Env := [some (.pu (gridD g)), some (.pu (swD a b c d)), some (.pu (.int (a : Nat))), some (.pu (.int (b : Nat))), some (.pu (.int (c : Nat))), some (.pu (.int (d : Nat))), some (.nst h), none]
  have e1 : cell (addc g a c 1) b d = cell g b d := by
    rw [cell_addc G.G ha hc, if_neg (fun z => hab z.1.symm)]; omega
  have e2 : cell (addc (addc (addc g a c 1) b d 1) a d (-1)) b c = cell (addc (addc g a c 1) b d 1) b c := by
    rw [cell_addc G2 ha hd, if_neg (fun z => hab z.1.symm)]; omega
  refine frL_of (RtL.seq (ρ1 := [some (.pu (gridD g)), some (.pu (swD a b c d)), some (.pu (.int (a : Nat))), some (.pu (.int (b : Nat))), some (.pu (.int (c : Nat))), some (.pu (.int (d : Nat))), none, none]) (Nx.bind (.var rfl) rfl) ?_)
  refine RtL.seq (nx_copy (.var rfl) rfl (by show 7 < 8; decide) gl) ?_
  refine RtL.seq (ρ1 := E (addc (addc g a c 1) b d 1)) ?_ (RtL.seq (ρ1 := E (beh g a b c d)) ?_ (rtL_retN rfl rfl))
  · have hv : Ev (bndA (fCons (fOp2 gAdd (fIxN 6 2 4) (fC (.int 1))) (fCons (fOp2 gAdd (fIxN 6 3 5) (fC (.int 1))) (fNil))) gMkT) (E g) (.tuple [.int (cell g a c + 1), .int (cell g b d + 1)]) :=
      Ev.bndA (w := .pu (.tuple [.int (cell g a c + 1), .int (cell g b d + 1)])) (.cons (ev_addI (ev_ixN G.G ha hc (m1 := 0) (m2 := 0) rfl rfl rfl) .k) (.cons (ev_addI (ev_ixN G.G hb hd (m1 := 0) (m2 := 0) rfl rfl rfl) .k) .nil)) rfl
    obtain ⟨w, q1, q2⟩ := hv
    have s1 := setG_nat G.G ha hc 1
    have s2 := setG_nat G1 hb hd 1
    rw [e1] at s2
    show sSetN2 _ _ _ _ _ _ (E g) = _
    unfold sSetN2 sE
    rw [q1]
    dsimp only
    rw [q2]
    show (match setG g a c (cell g a c + 1) with
      | some g' => (match setG g' b d (cell g b d + 1) with
        | some g'' => if 6 ≠ 3 ∧ 6 ≠ 5 then RS.nx (((E g).set 6 (some (.nst g'))).set 6 (some (.nst g''))) else .st
        | none => .st)
      | none => .st) = _
    rw [s1]
    dsimp only
    rw [s2]
    rfl
  · have hv : Ev (bndA (fCons (fOp2 gSub (fIxN 6 2 5) (fC (.int 1))) (fCons (fOp2 gSub (fIxN 6 3 4) (fC (.int 1))) (fNil))) gMkT) (E (addc (addc g a c 1) b d 1)) (.tuple [.int (cell (addc (addc g a c 1) b d 1) a d + -1), .int (cell (addc (addc g a c 1) b d 1) b c + -1)]) :=
      Ev.bndA (w := .pu (.tuple [.int (cell (addc (addc g a c 1) b d 1) a d + -1), .int (cell (addc (addc g a c 1) b d 1) b c + -1)])) (.cons (ev_subI (ev_ixN G2 ha hd (m1 := 0) (m2 := 0) rfl rfl rfl) .k) (.cons (ev_subI (ev_ixN G2 hb hc (m1 := 0) (m2 := 0) rfl rfl rfl) .k) .nil)) rfl
    obtain ⟨w, q1, q2⟩ := hv
    have s1 := setG_nat G2 ha hd (-1)
    have s2 := setG_nat G3 hb hc (-1)
    rw [e2] at s2
    show sSetN2 _ _ _ _ _ _ (E _) = _
    unfold sSetN2 sE
    rw [q1]
    dsimp only
    rw [q2]
    show (match setG (addc (addc g a c 1) b d 1) a d (cell (addc (addc g a c 1) b d 1) a d + -1) with
      | some g' => (match setG g' b c (cell (addc (addc g a c 1) b d 1) b c + -1) with
        | some g'' => if 6 ≠ 3 ∧ 6 ≠ 4 then RS.nx (((E (addc (addc g a c 1) b d 1)).set 6 (some (.nst g'))).set 6 (some (.nst g''))) else .st
        | none => .st)
      | none => .st) = _
    rw [s1]
    dsimp only
    rw [s2]
    rfl
/-! ### enumerate -/
theorem enumD_eq : ∀ (ds : List D) (k : Nat), enumD k ds = (List.range ds.length).map fun i => .tuple [.int ((k + i : Nat) : Int), ds.getD i .none]
  | [], k => rfl
  | d :: ds, k => by
    rw [List.length_cons, List.range_succ_eq_map, List.map_cons, List.map_map]
    show PyData.tuple [.int (k : Nat), d] :: enumD (k + 1) ds = _
    rw [enumD_eq ds (k + 1)]
    congr 1
    refine List.map_congr_left fun i hi => ?_
    simp only [Function.comp, List.getD_cons_succ]
    rw [show k + 1 + i = k + (i + 1) by omega]
abbrev enR (g : Grid) (i : Nat) : D := .tuple [.int (i : Nat), rowD (row g i)]
abbrev enC (r : List Int) (j : Nat) : D := .tuple [.int (j : Nat), .int (at0 r j)]
theorem enum_grid (G : Rect R C g) : kEnum [gridD g] = some ((List.range R).map (enR g)) := by
  show some (enumD 0 (g.map rowD)) = _
  rw [enumD_eq, List.length_map, G.len]
  congr 1
  refine List.map_congr_left fun i hi => ?_
  have hi' := List.mem_range.mp hi
  rw [Nat.zero_add, List.getD_eq_getElem?_getD, row_at G hi']
  rfl
theorem enum_row {r : List Int} (hr : r.length = C) : kEnum [rowD r] = some ((List.range C).map (enC r)) := by
  show some (enumD 0 (r.map PyData.int)) = _
  rw [enumD_eq, List.length_map, hr]
  congr 1
  refine List.map_congr_left fun i hi => ?_
  have hi' : i < r.length := by rw [hr]; exact List.mem_range.mp hi
  rw [Nat.zero_add, List.getD_eq_getElem?_getD, at_row hi']
  rfl
/-- the first of a list that is not empty -/
theorem first_of {p : Nat → Bool} {n k : Nat} (hk : k < n) (hp : p k = true) : ∃ k0, k0 < n ∧ p k0 = true ∧ gIx (.list (((List.range n).filter p).map fun i : Nat => PyData.int (i : Nat))) (.int 0) = some (.pu (.int (k0 : Nat))) := by
  have hm : k ∈ (List.range n).filter p := List.mem_filter.mpr ⟨List.mem_range.mpr hk, hp⟩
  cases e : (List.range n).filter p with
  | nil => rw [e] at hm; cases hm
  | cons k0 r =>
    have h0 : k0 ∈ (List.range n).filter p := by rw [e]; exact List.mem_cons_self
    obtain ⟨h1, h2⟩ := List.mem_filter.mp h0
    refine ⟨k0, List.mem_range.mp h1, h2, ?_⟩
    show (atI (PyData.int (k0 : Nat) :: r.map fun i : Nat => PyData.int (i : Nat)) ((0 : Nat) : Int)).map W.pu = _
    rw [atI_nat (x := PyData.int (k0 : Nat)) rfl]
    rfl
/-- what the next swap mends -/
structure Mends (R C : Nat) (g h : Grid) (a b c d : Nat) : Prop where
  ha : a < R
  hb : b < R
  hc : c < C
  hd : d < C
  l1 : cell g a c < cell h a c
  l2 : cell h a d < cell g a d
  l3 : cell h b c < cell g b c
theorem Mends.swap (M : Mends R C g h a b c d) (n : NN h) : swP R C g a b c d := by
  have l1 := M.l1
  have l2 := M.l2
  have l3 := M.l3
  have n1 := n a d
  have n2 := n b c
  refine ⟨M.ha, M.hb, M.hc, M.hd, fun e => ?_, fun e => ?_, by omega, by omega⟩
  · subst e; omega
  · subst e; omega
abbrev nxEnv (g h : Grid) (x2 x3 x4 x5 : Option Sl) : DL.Env := [some (.pu (gridD g)), some (.pu (gridD h)), x2, x3, x4, x5, none, none, none, none]
abbrev nxBody : DL.Env → RS := sIf (fOp2 gLt (fVar 5) (fOp2 gIx (fOp2 gIx (fVar 1) (fVar 2)) (fVar 4))) (sSeq (sPut 6 (fOp2 gIx (fLc (srcA (fCons (fVar 3) (fNil)) kEnum) (bTup [bName 7, bName 8]) (fOp2 gGt (fVar 8) (fOp2 gIx (fOp2 gIx (fVar 1) (fVar 2)) (fVar 7))) (fVar 7) [7, 8]) (fC (.int 0)))) (sSeq (sPut 9 (fOp2 gIx (fLc (srcA (fCons (fVar 0) (fNil)) kEnum) (bTup [bName 7, bName 8]) (fOp2 gGt (fOp2 gIx (fVar 8) (fVar 4)) (fOp2 gIx (fOp2 gIx (fVar 1) (fVar 7)) (fVar 4))) (fVar 7) [7, 8]) (fC (.int 0)))) (sRet (bndA (fCons (fVar 2) (fCons (fVar 9) (fCons (fVar 4) (fCons (fVar 6) (fNil))))) gMkT)))) (.nx)
theorem nx_hit (G : Good R C g) (H : Good R C h) (rs : ∀ i, i < R → rsum g i = rsum h i) (cs : ∀ j, j < C → csum g j = csum h j) {i j : Nat} (hi : i < R) (hj : j < C) (hl : cell g i j < cell h i j) {x4 x5 : Option Sl} :
    ∃ b d w ρ2, Mends R C g h i b j d ∧ nxBody [some (.pu (gridD g)), some (.pu (gridD h)), some (.pu (.int (i : Nat))), some (.pu (rowD (row g i))), some (.pu (.int (j : Nat))), some (.pu (.int (cell g i j))), none, none, none, none] = .ret w ρ2 ∧ w.d = swD i b j d ∧ colE ρ2 = [] := by
  have s6 : 6 ≤ sizeLine := by decide
  obtain ⟨k, hk1, hk2⟩ := more_in_row G.G H.G hi hj (rs i hi) hl
  obtain ⟨l, hl1, hl2⟩ := more_in_col G.G H.G hi hj (cs j hj) hl
  obtain ⟨k0, k1, k2, k3⟩ := first_of (p := fun k => decide (cell h i k < cell g i k)) hk1 (decide_eq_true hk2)
  obtain ⟨l0, m1, m2, m3⟩ := first_of (p := fun l => decide (cell h l j < cell g l j)) hl1 (decide_eq_true hl2)
  have M : Mends R C g h i l0 j k0 := ⟨hi, m1, hj, k1, hl, of_decide_eq_true k2, of_decide_eq_true m2⟩
  have lc1 : Evl (fLc (srcA (fCons (fVar 3) (fNil)) kEnum) (bTup [bName 7, bName 8]) (fOp2 gGt (fVar 8) (fOp2 gIx (fOp2 gIx (fVar 1) (fVar 2)) (fVar 7))) (fVar 7) [7, 8]) [some (.pu (gridD g)), some (.pu (gridD h)), some (.pu (.int (i : Nat))), some (.pu (rowD (row g i))), some (.pu (.int (j : Nat))), some (.pu (.int (cell g i j))), none, none, none, none] (((List.range C).filter fun k => decide (cell h i k < cell g i k)).map fun k : Nat => .int (k : Nat)) :=
    evl_gen (enC (row g i)) (fun k : Nat => .int (k : Nat)) _ (List.range C) (srcA_ok (.cons (.var rfl) .nil) (enum_row (G.G.rowLen hi))) rfl (by rw [List.length_range]; exact Nat.le_trans G.C6 s6) fun k hk =>
      ⟨_, rfl, ev_gt (.var rfl) (ev_cell H.G hi (List.mem_range.mp hk) (.var rfl) (.var rfl) (.var rfl)), fun _ => .var rfl, rfl⟩
  have lc2 : Evl (fLc (srcA (fCons (fVar 0) (fNil)) kEnum) (bTup [bName 7, bName 8]) (fOp2 gGt (fOp2 gIx (fVar 8) (fVar 4)) (fOp2 gIx (fOp2 gIx (fVar 1) (fVar 7)) (fVar 4))) (fVar 7) [7, 8]) [some (.pu (gridD g)), some (.pu (gridD h)), some (.pu (.int (i : Nat))), some (.pu (rowD (row g i))), some (.pu (.int (j : Nat))), some (.pu (.int (cell g i j))), some (.pu (.int (k0 : Nat))), none, none, none] (((List.range R).filter fun l => decide (cell h l j < cell g l j)).map fun l : Nat => .int (l : Nat)) :=
    evl_gen (enR g) (fun l : Nat => .int (l : Nat)) _ (List.range R) (srcA_ok (.cons (.var rfl) .nil) (enum_grid G.G)) rfl (by rw [List.length_range]; exact Nat.le_trans G.R6 s6) fun l hl' =>
      ⟨_, rfl, ev_gt (Ev.op2 (w := .pu (.int (cell g l j))) (.var rfl) (.var rfl) (ix_at (by rw [G.G.rowLen (List.mem_range.mp hl')]; exact hj))) (ev_cell H.G (List.mem_range.mp hl') hj (.var rfl) (.var rfl) (.var rfl)), fun _ => .var rfl, rfl⟩
  have r : Rt nxBody [some (.pu (gridD g)), some (.pu (gridD h)), some (.pu (.int (i : Nat))), some (.pu (rowD (row g i))), some (.pu (.int (j : Nat))), some (.pu (.int (cell g i j))), none, none, none, none] (swD i l0 j k0) := by
    refine Rt.if (x := true) ?_ (fun _ => ?_) fun z => nomatch z
    · have z := ev_lt (ρ := [some (.pu (gridD g)), some (.pu (gridD h)), some (.pu (.int (i : Nat))), some (.pu (rowD (row g i))), some (.pu (.int (j : Nat))), some (.pu (.int (cell g i j))), none, none, none, none]) (fa := fVar 5) (.var rfl) (ev_cell H.G hi hj (.var (i := 1) rfl) (.var (i := 2) rfl) (.var (i := 4) rfl))
      rw [decide_eq_true hl] at z
      exact z
    · exact Rt.seq (Nx.put (Ev.op2 (w := .pu (.int (k0 : Nat))) lc1.ev .k k3)) (Rt.seq (Nx.put (Ev.op2 (w := .pu (.int (l0 : Nat))) lc2.ev .k m3)) (.ret (Ev.bndA (w := .pu (swD i l0 j k0)) (.cons (.var rfl) (.cons (.var rfl) (.cons (.var rfl) (.cons (.var rfl) .nil)))) rfl) rfl))
  obtain ⟨w, ρ', q1, q2, q3⟩ := r
  exact ⟨l0, k0, w, ρ', M, q1, q2, q3⟩
theorem fr_next_swap (G : Good R C g) (H : Good R C h) (rs : ∀ i, i < R → rsum g i = rsum h i) (cs : ∀ j, j < C → csum g j = csum h j) :
    (Fr F_next_swap [gridD g, gridD h] .none ∧ ∀ i j, i < R → j < C → cell h i j ≤ cell g i j) ∨ ∃ a b c d, Fr F_next_swap [gridD g, gridD h] (swD a b c d) ∧ Mends R C g h a b c d := by
  have pubX : ∀ d : D, isPub (some (.pu d)) := fun d _ _ z => nomatch z
  have inner : ∀ (i : Nat), i < R → ∀ (x4 x5 : Option Sl), isPub x4 → isPub x5 →
      (∃ y4 y5, isPub y4 ∧ isPub y5 ∧ sFor (srcA (fCons (fVar 3) (fNil)) kEnum) (bTup [bName 4, bName 5]) nxBody (nxEnv g h (some (.pu (.int (i : Nat)))) (some (.pu (rowD (row g i)))) x4 x5) = .nx (nxEnv g h (some (.pu (.int (i : Nat)))) (some (.pu (rowD (row g i)))) y4 y5) ∧ ∀ j, j < C → cell h i j ≤ cell g i j) ∨
      ∃ b c d w ρ2, Mends R C g h i b c d ∧ sFor (srcA (fCons (fVar 3) (fNil)) kEnum) (bTup [bName 4, bName 5]) nxBody (nxEnv g h (some (.pu (.int (i : Nat)))) (some (.pu (rowD (row g i)))) x4 x5) = .ret w ρ2 ∧ w.d = swD i b c d ∧ colE ρ2 = [] := by
    intro i hi x4 x5 p4 p5
    have e : ∀ x4 x5, sFor (srcA (fCons (fVar 3) (fNil)) kEnum) (bTup [bName 4, bName 5]) nxBody (nxEnv g h (some (.pu (.int (i : Nat)))) (some (.pu (rowD (row g i)))) x4 x5) = forGo (bTup [bName 4, bName 5]) nxBody ((List.range C).map (enC (row g i))) (nxEnv g h (some (.pu (.int (i : Nat)))) (some (.pu (rowD (row g i)))) x4 x5) := fun x4 x5 => by
      unfold sFor
      rw [srcA_ok (.cons (.var rfl) .nil) (enum_row (G.G.rowLen hi))]
    rw [e]
    have key := for_find (bind := bTup [bName 4, bName 5]) (body := nxBody) (fun ρ => ∃ y4 y5, isPub y4 ∧ isPub y5 ∧ ρ = nxEnv g h (some (.pu (.int (i : Nat)))) (some (.pu (rowD (row g i)))) y4 y5) (fun t => ∃ j, t = enC (row g i) j ∧ j < C ∧ cell g i j < cell h i j) (fun _ w ρ2 => ∃ b c d, Mends R C g h i b c d ∧ w.d = swD i b c d ∧ colE ρ2 = []) ((List.range C).map (enC (row g i))) _ ⟨x4, x5, p4, p5, rfl⟩ fun t ht ρ hI => by
      obtain ⟨y4, y5, q4, q5, rfl⟩ := hI
      obtain ⟨j, hj, rfl⟩ := List.mem_map.mp ht
      have hj' := List.mem_range.mp hj
      refine ⟨_, rfl, ?_⟩
      by_cases hl : cell g i j < cell h i j
      · obtain ⟨b, d, w, ρ2, M, z1, z2, z3⟩ := nx_hit G H rs cs hi hj' hl (x4 := none) (x5 := none)
        exact .inr ⟨⟨j, rfl, hj', hl⟩, w, ρ2, z1, b, j, d, M, z2, z3⟩
      · refine .inl ⟨fun ⟨j2, e1, e2, e3⟩ => ?_, _, Nx.if (x := false) ?_ (fun z => nomatch z) fun _ => .nx, some (.pu (.int (j : Nat))), some (.pu (.int (cell g i j))), pubX _, pubX _, rfl⟩
        · have : j = j2 := by
            have e1' : PyData.tuple [.int (j : Nat), _] = PyData.tuple [.int (j2 : Nat), _] := e1
            simp only [PyData.tuple.injEq, List.cons.injEq, PyData.int.injEq] at e1'
            omega
          rw [← this] at e3
          exact hl e3
        · have z := ev_lt (ρ := nxEnv g h (some (.pu (.int (i : Nat)))) (some (.pu (rowD (row g i)))) (some (.pu (.int (j : Nat)))) (some (.pu (.int (cell g i j))))) (fa := fVar 5) (.var rfl) (ev_cell H.G hi hj' (.var (i := 1) rfl) (.var (i := 2) rfl) (.var (i := 4) rfl))
          rw [decide_eq_false hl] at z
          exact z
    rcases key with ⟨ρ', z1, ⟨y4, y5, q4, q5, rfl⟩, z2⟩ | ⟨t, ht, _, w, ρ2, z1, b, c, d, M, z2, z3⟩
    · exact .inl ⟨y4, y5, q4, q5, z1, fun j hj => Int.not_lt.mp fun z => z2 _ (List.mem_map.mpr ⟨j, List.mem_range.mpr hj, rfl⟩) ⟨j, rfl, hj, z⟩⟩
    · exact .inr ⟨b, c, d, w, ρ2, M, z1, z2, z3⟩
  have key := for_find (bind := bTup [bName 2, bName 3]) (body := sFor (srcA (fCons (fVar 3) (fNil)) kEnum) (bTup [bName 4, bName 5]) nxBody) (fun ρ => ∃ y2 y3 y4 y5, isPub y2 ∧ isPub y3 ∧ isPub y4 ∧ isPub y5 ∧ ρ = nxEnv g h y2 y3 y4 y5) (fun t => ∃ i, t = enR g i ∧ i < R ∧ ¬ ∀ j, j < C → cell h i j ≤ cell g i j) (fun _ w ρ2 => ∃ a b c d, Mends R C g h a b c d ∧ w.d = swD a b c d ∧ colE ρ2 = []) ((List.range R).map (enR g)) (args 10 [gridD g, gridD h]) ⟨none, none, none, none, (fun _ _ z => nomatch z), (fun _ _ z => nomatch z), (fun _ _ z => nomatch z), (fun _ _ z => nomatch z), rfl⟩ fun t ht ρ hI => by
    obtain ⟨y2, y3, y4, y5, q2, q3, q4, q5, rfl⟩ := hI
    obtain ⟨i, hi, rfl⟩ := List.mem_map.mp ht
    have hi' := List.mem_range.mp hi
    refine ⟨_, rfl, ?_⟩
    rcases inner i hi' y4 y5 q4 q5 with ⟨z4, z5, p4, p5, e1, e2⟩ | ⟨b, c, d, w, ρ2, M, e1, e2, e3⟩
    · refine .inl ⟨fun ⟨i2, f1, f2, f3⟩ => f3 ?_, _, e1, _, _, z4, z5, pubX _, pubX _, p4, p5, rfl⟩
      have : i = i2 := by
        have e1' : PyData.tuple [.int (i : Nat), _] = PyData.tuple [.int (i2 : Nat), _] := f1
        simp only [PyData.tuple.injEq, List.cons.injEq, PyData.int.injEq] at e1'
        omega
      rw [← this]
      exact e2
    · refine .inr ⟨⟨i, rfl, hi', fun z => ?_⟩, w, ρ2, e1, i, b, c, d, M, e2, e3⟩
      have l1 := M.l1
      have := z c M.hc
      omega
  have e : sFor (srcA (fCons (fVar 0) (fNil)) kEnum) (bTup [bName 2, bName 3]) (sFor (srcA (fCons (fVar 3) (fNil)) kEnum) (bTup [bName 4, bName 5]) nxBody) (args 10 [gridD g, gridD h]) = forGo (bTup [bName 2, bName 3]) (sFor (srcA (fCons (fVar 3) (fNil)) kEnum) (bTup [bName 4, bName 5]) nxBody) ((List.range R).map (enR g)) (args 10 [gridD g, gridD h]) := by
    unfold sFor
    rw [srcA_ok (ds := [gridD g]) (.cons (.var rfl) .nil) (enum_grid G.G)]
  rw [← e] at key
  rcases key with ⟨ρ', z1, ⟨y2, y3, y4, y5, q2, q3, q4, q5, rfl⟩, z2⟩ | ⟨t, ht, _, w, ρ2, z1, a, b, c, d, M, z2, z3⟩
  · refine .inl ⟨fr_of (Rt.seq z1 (.ret .k (colE_pubs fun o ho t ds => ?_))), fun i j hi hj => ?_⟩
    · simp only [List.mem_cons, List.not_mem_nil, or_false] at ho
      rcases ho with rfl | rfl | rfl | rfl | rfl | rfl | rfl | rfl | rfl | rfl
      · exact pubX _ t ds
      · exact pubX _ t ds
      · exact q2 t ds
      · exact q3 t ds
      · exact q4 t ds
      · exact q5 t ds
      · exact fun z => nomatch z
      · exact fun z => nomatch z
      · exact fun z => nomatch z
      · exact fun z => nomatch z
    · exact Classical.byContradiction fun n => z2 _ (List.mem_map.mpr ⟨i, List.mem_range.mpr hi, rfl⟩) ⟨i, rfl, hi, fun z => n (z j hj)⟩
  · exact .inr ⟨a, b, c, d, fr_of (Rt.now ⟨w, ρ2, z1, z2, z3⟩), M⟩
end
end K54
/-! M6: swaps between two grids; which lists are such. -/
namespace K54
open PySem L2 PyProof.Rows DL GM
abbrev Sw := Nat × Nat × Nat × Nat
abbrev sD (s : Sw) : D := swD s.1 s.2.1 s.2.2.1 s.2.2.2
abbrev bS (g : Grid) (s : Sw) : Grid := beh g s.1 s.2.1 s.2.2.1 s.2.2.2
inductive Path (R C : Nat) : Grid → List Sw → Grid → Prop
  | nil (g : Grid) : Path R C g [] g
  | cons {g h : Grid} {s : Sw} {l : List Sw} : swP R C g s.1 s.2.1 s.2.2.1 s.2.2.2 → Path R C (bS g s) l h → Path R C g (s :: l) h
section
variable {R C : Nat} {g h : Grid} {a b c d : Nat}
theorem Good.beh (G : Good R C g) (hs : swP R C g a b c d) : Good R C (beh g a b c d) :=
  ⟨G.G.beh, G.n.beh G.G hs.1 hs.2.1 hs.2.2.1 hs.2.2.2.1 hs.2.2.2.2.1 hs.2.2.2.2.2.1 hs.2.2.2.2.2.2.1 hs.2.2.2.2.2.2.2, G.R1, G.R6, G.C1, G.C6⟩
abbrev wbEnv (g h : Grid) (acc : List D) (x : Grid) (s : D) : DL.Env := [some (.pu (gridD g)), some (.pu (gridD h)), some (.own 0 acc), some (.pu (gridD x)), some (.pu s)]
abbrev wbBody : DL.Env → RS := sSeq (sApp 2 (fVar 4)) (sSeq (sPut 3 (fCall 2 F_behind (fCons (fVar 3) (fCons (fVar 4) (fNil))))) (sPut 4 (fCall 2 F_next_swap (fCons (fVar 3) (fCons (fVar 1) (fNil))))))
theorem nx_app {ρ : DL.Env} {i t : Nat} {ds : List D} {fa : DL.Env → RE} {v : D} (h : ρ[i]? = some (some (.own t ds))) (ha : Ev fa ρ v) (hl : ds.length < sizeLine) : Nx (sApp i fa) ρ (ρ.set i (some (.own t (ds ++ [v])))) := by
  obtain ⟨w, q1, q2⟩ := ha
  unfold Nx sApp sE
  rw [h]
  dsimp only
  rw [q1]
  dsimp only
  rw [h]
  dsimp only
  rw [if_pos hl, q2]
theorem wb_loop (H : Good R C h) (g0 : Grid) : ∀ (fuel : Nat) (x : Grid) (acc : List D) (s : D), Good R C x → (∀ i, i < R → rsum x i = rsum h i) → (∀ j, j < C → csum x j = csum h j) → Fr F_next_swap [gridD x, gridD h] s →
    ex x h + 1 ≤ fuel → acc.length + ex x h ≤ sizeLine → ∃ l : List Sw, Path R C x l h ∧ l.length ≤ ex x h ∧ whGo (fOp2 gNotN (fVar 4) (fC .none)) wbBody fuel (wbEnv g0 h acc x s) = .nx (wbEnv g0 h (acc ++ l.map sD) h .none)
  | 0, _, _, _, _, _, _, _, hf, _ => absurd hf (by omega)
  | fuel + 1, x, acc, s, X, rs, cs, hn, hf, hl => by
    rcases fr_next_swap X H rs cs with ⟨n1, n2⟩ | ⟨a, b, c, d, n1, M⟩
    · obtain ⟨w1, e1, e2⟩ := hn
      obtain ⟨w2, e3, e4⟩ := n1
      rw [e1] at e3
      obtain rfl : w1 = w2 := by injection e3
      obtain rfl : s = .none := by rw [← e2, e4]
      have hx : x = h := same_of X.G H.G rs n2
      subst hx
      refine ⟨[], .nil x, Nat.zero_le _, ?_⟩
      unfold whGo
      have z : Ev (fOp2 gNotN (fVar 4) (fC .none)) (wbEnv g0 x acc x .none) (.bool false) := Ev.op2 (w := .pu (.bool false)) (.var rfl) .k rfl
      obtain ⟨w, z1, z2⟩ := z
      rw [z1]
      dsimp only
      rw [z2]
      simp
    · obtain ⟨w1, e1, e2⟩ := hn
      obtain ⟨w2, e3, e4⟩ := n1
      rw [e1] at e3
      obtain rfl : w1 = w2 := by injection e3
      obtain rfl : s = swD a b c d := by rw [← e2, e4]
      have sw := M.swap H.n
      have X2 := X.beh sw
      have rs2 : ∀ i, i < R → rsum (beh x a b c d) i = rsum h i := fun i hi => by rw [rsum_beh X.G M.ha M.hb M.hc M.hd]; exact rs i hi
      have cs2 : ∀ j, j < C → csum (beh x a b c d) j = csum h j := fun j hj => by rw [csum_beh X.G M.ha M.hb M.hc M.hd]; exact cs j hj
      have less := ex_beh X.G H.G M.ha M.hb M.hc M.hd sw.2.2.2.2.1 sw.2.2.2.2.2.1 M.l1 M.l2 M.l3
      have ns : ∃ s2, Fr F_next_swap [gridD (beh x a b c d), gridD h] s2 := by
        rcases fr_next_swap X2 H rs2 cs2 with ⟨q, _⟩ | ⟨_, _, _, _, q, _⟩
        · exact ⟨_, q⟩
        · exact ⟨_, q⟩
      obtain ⟨s2, ns⟩ := ns
      obtain ⟨l, p1, p2, p3⟩ := wb_loop H g0 fuel (beh x a b c d) (acc ++ [swD a b c d]) s2 X2 rs2 cs2 ns (by omega) (by rw [List.length_append]; show acc.length + 1 + _ ≤ _; omega)
      refine ⟨(a, b, c, d) :: l, .cons sw p1, by simp only [List.length_cons]; omega, ?_⟩
      unfold whGo
      have z : Ev (fOp2 gNotN (fVar 4) (fC .none)) (wbEnv g0 h acc x (swD a b c d)) (.bool true) := Ev.op2 (w := .pu (.bool true)) (.var rfl) .k rfl
      obtain ⟨w, z1, z2⟩ := z
      rw [z1]
      dsimp only
      rw [z2]
      dsimp only
      have bd : Nx wbBody (wbEnv g0 h acc x (swD a b c d)) (wbEnv g0 h (acc ++ [swD a b c d]) (beh x a b c d) s2) :=
        Nx.seq (nx_app (t := 0) (ds := acc) rfl (.var rfl) (by omega)) (Nx.seq (Nx.put (Ev.call (.cons (.var rfl) (.cons (.var rfl) .nil)) (fr_behind X M.ha M.hb M.hc M.hd).fr rfl)) (Nx.put (Ev.call (.cons (.var (m := 0) (d := gridD (beh x a b c d)) rfl) (.cons (.var (m := 0) (d := gridD h) rfl) .nil)) ns rfl)))
      rw [show wbBody (wbEnv g0 h acc x (swD a b c d)) = _ from bd]
      dsimp only
      rw [p3]
      simp
theorem rowSum_eq (r : List Int) : ∀ n : Nat, (r.map PyData.int).foldl (fun n d => match d with
    | .int i => n + i.toNat
    | _ => n) n = n + tot1 r := by
  induction r with
  | nil => intro n; simp [tot1]
  | cons x r ih =>
    intro n
    rw [List.map_cons, List.foldl_cons]
    have := ih (n + x.toNat)
    rw [this]
    unfold tot1
    simp only [List.map_cons, List.sum_cons]
    omega
theorem rowsSum_eq (g : Grid) : ∀ n : Nat, (g.map rowD).foldl (fun n r => n + rowSum r) n = n + tot g := by
  induction g with
  | nil => intro n; simp [tot]
  | cons r g ih =>
    intro n
    rw [List.map_cons, List.foldl_cons, ih]
    have e : rowSum (rowD r) = tot1 r := by
      have z := rowSum_eq r 0
      rw [Nat.zero_add] at z
      exact z
    rw [e]
    unfold tot
    simp only [List.map_cons, List.sum_cons]
    omega
theorem same_sums (G : Good R C g) (H : Good R C h) (e : sameM C g h = true) : (∀ i, i < R → rsum g i = rsum h i) ∧ ∀ j, j < C → csum g j = csum h j := by
  obtain ⟨e1, e2⟩ := of_decide_eq_true e
  refine ⟨fun i hi => ?_, fun j hj => ?_⟩
  · have z := congrArg (fun l : List Int => l[i]?) e1
    simp only [List.getElem?_map] at z
    have hg : i < g.length := by rw [G.G.len]; exact hi
    have hh : i < h.length := by rw [H.G.len]; exact hi
    rw [List.getElem?_eq_getElem hg, List.getElem?_eq_getElem hh] at z
    unfold rsum row
    rw [List.getElem?_eq_getElem hg, List.getElem?_eq_getElem hh]
    exact Option.some.inj z
  · have z := congrArg (fun l : List Int => l[j]?) e2
    simp only [List.getElem?_map] at z
    rw [List.getElem?_range hj] at z
    exact Option.some.inj z
/-- swaps between two grids: none, or a list of swaps that leads there -/
theorem fr_swaps_between {ca : Str → Addr} (G : Good R C g) (H : Good R C h) (ht : tot g ≤ 100000) : (sameM C g h = false ∧ (F_swaps_between ca) ([gridD g, gridD h].map .pu) = .ok (.pu .none) []) ∨ (sameM C g h = true ∧ ∃ l : List Sw, Path R C g l h ∧ l.length ≤ tot g ∧ FrL (F_swaps_between ca) [gridD g, gridD h] (l.map sD)) := by
  have c1 : Nx (sDrop (fCall 1 (F_check_grid ca) (fCons (fVar 0) (fNil)))) (args 5 [gridD g, gridD h]) (args 5 [gridD g, gridD h]) := Nx.drop (.call (.cons (.var rfl) .nil) (fr_check_grid G) rfl)
  have c2 : Nx (sDrop (fCall 1 (F_check_grid ca) (fCons (fVar 1) (fNil)))) (args 5 [gridD g, gridD h]) (args 5 [gridD g, gridD h]) := Nx.drop (.call (.cons (.var rfl) .nil) (fr_check_grid H) rfl)
  have c3 : Ev (fOp2 gNe (fCall 1 F_sums_of (fCons (fVar 0) (fNil))) (fCall 1 F_sums_of (fCons (fVar 1) (fNil)))) (args 5 [gridD g, gridD h]) (.bool (!sameM C g h)) := Ev.op2 (w := .pu (.bool (!sameM C g h))) (.call (.cons (.var rfl) .nil) (fr_sums_of G) rfl) (.call (.cons (.var rfl) .nil) (fr_sums_of H) rfl) (ne_marg C g h)
  cases e : sameM C g h with
  | false =>
    rw [e] at c3
    refine .inl ⟨rfl, ?_⟩
    have g2 : g_swaps_between ca (args 5 [gridD g, gridD h]) = .ret (.pu .none) (args 5 [gridD g, gridD h]) := by
      unfold g_swaps_between sSeq
      rw [show sDrop _ _ = _ from c1]
      dsimp only
      rw [show sDrop _ _ = _ from c2]
      dsimp only
      rw [if_eq c3]
      rfl
    show fnF 5 (g_swaps_between ca) _ = _
    unfold fnF
    rw [List.length_map]
    rw [show g_swaps_between ca (List.map some (List.map Sl.pu [gridD g, gridD h]) ++ List.replicate (5 - [gridD g, gridD h].length) none) = _ from g2]
    rfl
  | true =>
    rw [e] at c3
    obtain ⟨rs, cs⟩ := same_sums G H e
    have hex := ex_le (g := g) (h := h) H.n.mem
    have ns : ∃ s2, Fr F_next_swap [gridD g, gridD h] s2 := by
      rcases fr_next_swap G H rs cs with ⟨q, _⟩ | ⟨_, _, _, _, q, _⟩
      · exact ⟨_, q⟩
      · exact ⟨_, q⟩
    obtain ⟨s2, ns⟩ := ns
    have sl : 100000 ≤ sizeLine := by decide
    obtain ⟨l, p1, p2, p3⟩ := wb_loop H g (2 + tot g) g [] s2 G rs cs ns (by omega) (by simp only [List.length_nil]; omega)
    refine .inr ⟨rfl, l, p1, by omega, frL_of (RtL.seq c1 (RtL.seq c2 (RtL.seq (Nx.if (x := false) c3 (fun z => nomatch z) fun _ => .nx) ?_)))⟩
    refine RtL.seq (ρ1 := [some (.pu (gridD g)), some (.pu (gridD h)), some (.own 0 []), none, none]) rfl ?_
    refine RtL.seq (Nx.put (.var rfl)) (RtL.seq (ρ1 := wbEnv g h [] g s2) (Nx.put (Ev.call (.cons (.var (m := 0) (d := gridD g) rfl) (.cons (.var (m := 0) (d := gridD h) rfl) .nil)) ns rfl)) ?_)
    refine RtL.seq (ρ1 := wbEnv g h ([] ++ l.map sD) h .none) ?_ ⟨_, rfl, rfl⟩
    show whGo _ _ (m_swaps_between (wbEnv g h [] g s2)) _ = _
    rw [show m_swaps_between (wbEnv g h [] g s2) = 2 + tot g from rowsSum_eq g 2]
    exact p3
/-! ### which lists lead there -/
def behD (g : Grid) : D → Grid
  | .tuple [.int a, .int b, .int c, .int d] => beh g a.toNat b.toNat c.toNat d.toNat
  | _ => g
def goB (R C : Nat) : Grid → List D → Grid → Bool
  | g, [], o => decide (g = o)
  | g, v :: vs, o => if swB R C g v then goB R C (behD g v) vs o else false
def valB (R C : Nat) (g o : Grid) : D → Bool
  | .list vs => goB R C g vs o
  | _ => false
theorem swB_nat2 {v : D} (h : swB R C g v = true) : ∃ a b c d, v = swD a b c d ∧ swP R C g a b c d ∧ behD g v = beh g a b c d := by
  unfold swB at h
  split at h
  · rename_i a b c d
    obtain ⟨h1, h2, h3, h4, h5⟩ := of_decide_eq_true h
    refine ⟨a.toNat, b.toNat, c.toNat, d.toNat, ?_, h5, rfl⟩
    unfold swD
    rw [Int.toNat_of_nonneg h1, Int.toNat_of_nonneg h2, Int.toNat_of_nonneg h3, Int.toNat_of_nonneg h4]
  · cases h
def valOk (v : D) : Prop := dOk v = true ∧ ∀ vs, v = .list vs → ∀ x ∈ vs, vOk x
def isL : D → Bool
  | .list _ => true
  | _ => false
theorem isi_list {v : D} (h : dOk v = true) : gIsi "list" v = some (.pu (.bool (isL v))) := by
  cases v with
  | dict l => cases dOk_cases h l rfl; rfl
  | _ => rfl
abbrev asEnv (g h : Grid) (v : D) (x3 x4 : Option Sl) : DL.Env := [some (.pu (gridD g)), some (.pu (gridD h)), some (.pu v), x3, x4]
theorem are_body {fs fb : DL.Env → RE} {v : D} (G : Good R C g) (H : Good R C h) (hv : valOk v) (h1 : ∀ (x : Grid) (s : D), Good R C x → vOk s → Ev fs (asEnv g h v (some (.pu (gridD x))) (some (.pu s))) (.bool (swB R C x s))) (h2 : ∀ (x : Grid) (a b c d : Nat), Good R C x → swP R C x a b c d → Ev fb (asEnv g h v (some (.pu (gridD x))) (some (.pu (swD a b c d)))) (gridD (beh x a b c d))) :
    Rt (sSeq (sIf (fNot (fOp1 (gIsi "list") (fVar 2))) (sRet (fC (.bool false))) (.nx)) (sSeq (sPut 3 (fVar 0)) (sSeq (sFor (srcE (fVar 2) itemsL) (bName 4) (sSeq (sIf (fNot fs) (sRet (fC (.bool false))) (.nx)) (sPut 3 fb))) (sRet (fOp2 gEq (fVar 3) (fVar 1)))))) (asEnv g h v none none) (.bool (valB R C g h v)) := by
  have pubX : ∀ d : D, isPub (some (.pu d)) := fun d _ _ z => nomatch z
  have e := isi_list hv.1
  by_cases hL : ∃ vs, v = .list vs
  · obtain ⟨vs, rfl⟩ := hL
    refine Rt.guard (x := false) (.not (x := true) (Ev.op1 (w := .pu (.bool true)) (.var rfl) e)) (fun z => nomatch z) fun _ => ?_
    refine Rt.seq (ρ1 := asEnv g h (.list vs) (some (.pu (gridD g))) none) (Nx.put (.var rfl)) ?_
    have key := for_inv (bind := bName 4) (body := sSeq (sIf (fNot fs) (sRet (fC (.bool false))) (.nx)) (sPut 3 fb)) (fun items ρ => ∃ x x4, Good R C x ∧ isPub x4 ∧ ρ = asEnv g h (.list vs) (some (.pu (gridD x))) x4 ∧ (∀ s ∈ items, vOk s) ∧ goB R C x items h = goB R C g vs h)
      (fun o => (∃ x x4, o = .nx (asEnv g h (.list vs) (some (.pu (gridD x))) x4) ∧ isPub x4 ∧ decide (x = h) = goB R C g vs h) ∨ ∃ w ρ', o = .ret w ρ' ∧ w.d = .bool false ∧ goB R C g vs h = false ∧ colE ρ' = []) vs (asEnv g h (.list vs) (some (.pu (gridD g))) none) ⟨g, none, G, (fun _ _ z => nomatch z), rfl, hv.2 vs rfl, rfl⟩
      (fun s r ρ hJ => by
        obtain ⟨x, x4, X, p4, rfl, ok, t⟩ := hJ
        refine ⟨_, rfl, ?_⟩
        have es := h1 x s X (ok s List.mem_cons_self)
        cases q : swB R C x s with
        | true =>
          obtain ⟨a, b, c, d, rfl, sw, eb⟩ := swB_nat2 q
          rw [q] at es
          refine .inl ⟨_, Nx.seq (Nx.if (x := false) (.not (x := true) es) (fun z => nomatch z) fun _ => .nx) (Nx.put (h2 x a b c d X sw)), beh x a b c d, some (.pu (swD a b c d)), X.beh sw, pubX _, rfl, fun y hy => ok y (List.mem_cons_of_mem _ hy), ?_⟩
          rw [← t]
          show _ = (if swB R C x (swD a b c d) then goB R C (behD x (swD a b c d)) r h else false)
          rw [q, eb]; rfl
        | false =>
          rw [q] at es
          obtain ⟨w, ρ', z1, z2, z3⟩ := Rt.now (g := sPut 3 fb) (Rt.if (x := true) (f := sRet (fC (.bool false))) (g := .nx) (.not (x := false) es) (fun _ => .ret (d := .bool false) .k (colE_pubs fun o ho t ds => by
            simp only [List.mem_cons, List.not_mem_nil, or_false] at ho
            rcases ho with rfl | rfl | rfl | rfl | rfl <;> exact fun z => nomatch z)) fun z => nomatch z)
          refine .inr ⟨w, ρ', z1, .inr ⟨w, ρ', rfl, z2, ?_, z3⟩⟩
          rw [← t]
          show (if swB R C x s then _ else false) = _
          rw [q]; rfl)
      fun ρ hJ => by
        obtain ⟨x, x4, X, p4, rfl, ok, t⟩ := hJ
        exact .inl ⟨x, x4, rfl, p4, t⟩
    have es : sFor (srcE (fVar 2) itemsL) (bName 4) (sSeq (sIf (fNot fs) (sRet (fC (.bool false))) (.nx)) (sPut 3 fb)) (asEnv g h (.list vs) (some (.pu (gridD g))) none) = forGo (bName 4) (sSeq (sIf (fNot fs) (sRet (fC (.bool false))) (.nx)) (sPut 3 fb)) vs (asEnv g h (.list vs) (some (.pu (gridD g))) none) := by
      unfold sFor
      rw [srcE_ok (.var (m := 0) (d := .list vs) rfl) rfl]
    rw [← es] at key
    show Rt _ _ (.bool (goB R C g vs h))
    rcases key with ⟨x, x4, z1, p4, z2⟩ | ⟨w, ρ', z1, z2, z3, z4⟩
    · rw [← z2]
      refine Rt.seq z1 (.ret (Ev.op2 (w := .pu (.bool (decide (x = h)))) (.var rfl) (.var rfl) (eq_grid x h)) (colE_pubs fun o ho t ds => ?_))
      simp only [List.mem_cons, List.not_mem_nil, or_false] at ho
      rcases ho with rfl | rfl | rfl | rfl | rfl
      · exact pubX _ t ds
      · exact pubX _ t ds
      · exact pubX _ t ds
      · exact pubX _ t ds
      · exact p4 t ds
    · rw [z3]
      exact Rt.now ⟨w, ρ', z1, z2, z4⟩
  · have q : isL v = false ∧ valB R C g h v = false := by
      cases v with
      | list vs => exact absurd ⟨vs, rfl⟩ hL
      | _ => exact ⟨rfl, rfl⟩
    rw [q.1] at e
    rw [q.2]
    exact Rt.guard (x := true) (.not (x := false) (Ev.op1 (w := .pu (.bool false)) (.var rfl) e)) (fun _ => .ret .k rfl) fun z => nomatch z
theorem fr_l_are_swaps {v : D} (G : Good R C g) (H : Good R C h) (hv : valOk v) : Fr F_l_are_swaps [gridD g, gridD h, v] (.bool (valB R C g h v)) :=
  fr_of (are_body G H hv (fun x s X hs => .call (.cons (.var rfl) (.cons (.var rfl) .nil)) (fr_l_swap_ok X hs) rfl) fun x a b c d X sw => .call (.cons (.var rfl) (.cons (.var rfl) .nil)) (fr_l_behind X sw).fr rfl)
theorem fr_are_swaps_between {ca : Str → Addr} {v : D} (G : Good R C g) (H : Good R C h) (hv : valOk v) : Fr (F_are_swaps_between ca) [gridD g, gridD h, v] (.bool (valB R C g h v)) := by
  refine fr_of (Rt.seq (ρ1 := args 5 [gridD g, gridD h, v]) (Nx.drop (.call (.cons (.var rfl) .nil) (fr_check_grid G) rfl)) (Rt.seq (ρ1 := args 5 [gridD g, gridD h, v]) (Nx.drop (.call (.cons (.var rfl) .nil) (fr_check_grid H) rfl)) ?_))
  exact are_body G H hv (fun x s X hs => .call (.cons (.var rfl) (.cons (.var rfl) .nil)) (fr_is_swap X hs) rfl) fun x a b c d X sw => .call (.cons (.var rfl) (.cons (.var rfl) .nil)) (fr_behind X sw.1 sw.2.1 sw.2.2.1 sw.2.2.2.1).fr rfl
theorem path_goB {g h : Grid} {l : List Sw} (p : Path R C g l h) : goB R C g (l.map sD) h = true := by
  induction p with
  | nil g => exact decide_eq_true rfl
  | @cons g h s l sw p ih =>
    show (if swB R C g (sD s) then goB R C (behD g (sD s)) (l.map sD) h else false) = true
    rw [swB_nat, decide_eq_true sw, if_pos rfl]
    have e : behD g (sD s) = bS g s := by
      show beh g _ _ _ _ = _
      simp
    rw [e]
    exact ih
/-- the grid behind a swap, or the refusal -/
theorem fr_swapped {ca : Str → Addr} (G : Good R C g) (sw : swP R C g a b c d) : FrL (F_swapped ca) [gridD g, swD a b c d] ((beh g a b c d).map rowD) := by
  have vo : vOk (swD a b c d) := ⟨rfl, fun ds e => by cases e; rfl⟩
  have e := fr_is_swap (v := swD a b c d) G vo
  rw [swB_nat, decide_eq_true sw] at e
  refine frL_of (RtL.seq (ρ1 := args 2 [gridD g, swD a b c d]) (Nx.drop (.call (.cons (.var rfl) .nil) (fr_check_grid G) rfl)) (RtL.seq (ρ1 := args 2 [gridD g, swD a b c d]) (Nx.if (x := false) (.not (x := true) (.call (.cons (.var rfl) (.cons (.var rfl) .nil)) e rfl)) (fun z => nomatch z) fun _ => .nx) ?_))
  exact .ret (.call (.cons (.var rfl) (.cons (.var rfl) .nil)) (fr_behind G sw.1 sw.2.1 sw.2.2.1 sw.2.2.2.1) rfl) rfl
theorem fr_swapped_no {ca : Str → Addr} {v : D} (G : Good R C g) (hv : vOk v) (no : swB R C g v = false) : FrE (F_swapped ca) [gridD g, v] (ca "InvalidEdit") v := by
  have e := fr_is_swap (v := v) G hv
  rw [no] at e
  exact frE_of (Er.seq (ρ1 := args 2 [gridD g, v]) (Nx.drop (.call (.cons (.var rfl) .nil) (fr_check_grid G) rfl)) (Er.now (Er.if (x := true) (.not (x := false) (.call (.cons (.var rfl) (.cons (.var rfl) .nil)) e rfl)) (fun _ => Er.raise (.cons (.var rfl) .nil)) fun z => nomatch z)))
end
end K54
/-! M7: draws. -/
namespace DL
open PySem L2 PyProof.Rows
/-- the value of an expression that changes the slots -/
def EvS (f : Env → RE) (ρ ρ' : Env) (d : D) : Prop := ∃ w, f ρ = .ok w ρ' ∧ w.d = d
theorem Ev.s {f : Env → RE} {ρ : Env} {d : D} (h : Ev f ρ d) : EvS f ρ ρ d := h
theorem EvS.op2 {ρ ρ1 ρ2 : Env} {fa fb : Env → RE} {a b : D} {w : W} {g : D → D → Option W} (ha : EvS fa ρ ρ1 a) (hb : EvS fb ρ1 ρ2 b) (h : g a b = some w) : EvS (fOp2 g fa fb) ρ ρ2 w.d := by
  obtain ⟨wa, h1, rfl⟩ := ha
  obtain ⟨wb, h2, rfl⟩ := hb
  refine ⟨w, ?_, rfl⟩
  unfold fOp2 bndE
  rw [h1]
  dsimp only
  rw [h2]
  dsimp only
  rw [h]
  rfl
def EvLS (fs : Env → RL) (ρ ρ' : Env) (ds : List D) : Prop := fs ρ = .ok ds ρ'
theorem EvLS.nil {ρ : Env} : EvLS fNil ρ ρ [] := rfl
theorem EvLS.cons {ρ ρ1 ρ2 : Env} {fa : Env → RE} {fr : Env → RL} {a : D} {ds : List D} (ha : EvS fa ρ ρ1 a) (hr : EvLS fr ρ1 ρ2 ds) : EvLS (fCons fa fr) ρ ρ2 (a :: ds) := by
  obtain ⟨wa, h1, rfl⟩ := ha
  unfold EvLS fCons
  rw [h1]
  dsimp only
  rw [hr]
theorem EvS.bndA {ρ ρ1 : Env} {fs : Env → RL} {ds : List D} {w : W} {k : List D → Option W} (hs : EvLS fs ρ ρ1 ds) (h : k ds = some w) : EvS (bndA fs k) ρ ρ1 w.d := by
  unfold EvS DL.bndA
  rw [hs]
  dsimp only
  rw [h]
  exact ⟨w, rfl, rfl⟩
theorem EvS.both {ρ ρ1 ρ2 : Env} {fa ft ff : Env → RE} {d : D} {x : Bool} (ha : EvS fa ρ ρ1 (.bool x)) (h1 : x = true → EvS ft ρ1 ρ2 d) (h2 : x = false → EvS ff ρ1 ρ2 d) : EvS (fBoth fa ft ff) ρ ρ2 d := by
  obtain ⟨w, e1, e2⟩ := ha
  unfold EvS fBoth bndE
  rw [e1]
  dsimp only
  rw [e2]
  cases x with
  | true => exact h1 rfl
  | false => exact h2 rfl
theorem EvS.not {ρ ρ1 : Env} {fa : Env → RE} {x : Bool} (ha : EvS fa ρ ρ1 (.bool x)) : EvS (fNot fa) ρ ρ1 (.bool (!x)) :=
  ha.both (fun e => by subst e; exact Ev.k.s) fun e => by subst e; exact Ev.k.s
/-- or of two that are false -/
theorem EvS.orF {ρ ρ1 ρ2 : Env} {fa fb : Env → RE} (ha : EvS fa ρ ρ1 (.bool false)) (hb : EvS fb ρ1 ρ2 (.bool false)) : EvS (fOr fa fb) ρ ρ2 (.bool false) := ha.both (fun e => nomatch e) fun _ => hb
theorem seq_nx {ρ ρ1 : Env} {f g : Env → RS} (h : Nx f ρ ρ1) : sSeq f g ρ = g ρ1 := by
  unfold sSeq
  rw [show f ρ = .nx ρ1 from h]
theorem seq_ret {ρ ρ1 : Env} {f g : Env → RS} {w : W} (h : f ρ = .ret w ρ1) : sSeq f g ρ = .ret w ρ1 := by
  unfold sSeq
  rw [h]
/-- a function's answer whose first argument is lent -/
def FrO (F : List Sl → RF) (ds : List D) (es : List D) (ds2 : List D) (d : D) : Prop := ∃ w, F (.own 1 ds :: es.map .pu) = .ok w [(1, ds2)] ∧ w.d = d
theorem colE_own {t : Nat} {ds : List D} {ρ : Env} (h : colE ρ = []) : colE (some (.own (t + 1) ds) :: ρ) = [(t + 1, ds)] := by
  unfold colE at h ⊢
  rw [List.filterMap_cons]
  show (match tagOf (some (.own (t + 1) ds)) with
    | none => ρ.filterMap tagOf
    | some b => b :: ρ.filterMap tagOf) = _
  rw [h]
  rfl
theorem frO_of {n : Nat} {g : Env → RS} {ds es ds2 : List D} {w : W} {d : D} {ρ' : Env} (h : g (some (.own 1 ds) :: ((es.map Sl.pu).map some ++ List.replicate (n - (es.length + 1)) none)) = .ret w ρ') (hw : w.d = d) (hc : colE ρ' = [(1, ds2)]) : FrO (fnF n g) ds es ds2 d := by
  refine ⟨w, ?_, hw⟩
  unfold fnF
  rw [show (List.map some (Sl.own 1 ds :: es.map .pu) ++ List.replicate (n - (Sl.own 1 ds :: es.map Sl.pu).length) none) = (some (.own 1 ds) :: ((es.map Sl.pu).map some ++ List.replicate (n - (es.length + 1)) none)) by simp, h]
  dsimp only
  rw [hc, show colE ((Sl.own 1 ds :: es.map Sl.pu).map some) = [(1, ds)] from colE_own (t := 0) (colE_args0 es)]
  rfl
theorem EvS.lend {n i t : Nat} {F : List Sl → RF} {fs : Env → RL} {ρ : Env} {ds es ds2 : List D} {d : D} (h : ρ[i]? = some (some (.own t ds))) (hs : EvL fs ρ es) (hn : es.length + 1 = n) (hF : FrO F ds es ds2 d) : EvS (fLend n i F fs) ρ (ρ.set i (some (.own t ds2))) d := by
  obtain ⟨w, hw, e⟩ := hF
  refine ⟨w, ?_, e⟩
  unfold fLend
  rw [h]
  dsimp only
  rw [show fs ρ = _ from hs]
  dsimp only
  rw [h]
  dsimp only
  rw [if_pos hn, hw]
  rfl
theorem ret_s {ρ ρ' : Env} {fa : Env → RE} {d : D} (h : EvS fa ρ ρ' d) : ∃ w, sRet fa ρ = .ret w ρ' ∧ w.d = d := by
  obtain ⟨w, h1, h2⟩ := h
  refine ⟨w, ?_, h2⟩
  unfold sRet sE
  rw [h1]
theorem put_s {ρ ρ' : Env} {fa : Env → RE} {d : D} {i : Nat} (h : EvS fa ρ ρ' d) : Nx (sPut i fa) ρ (ρ'.set i (some (.pu d))) := by
  obtain ⟨w, h1, rfl⟩ := h
  unfold Nx sPut sE
  rw [h1]
theorem if_s {ρ ρ' : Env} {fc : Env → RE} {f g : Env → RS} {x : Bool} (hc : EvS fc ρ ρ' (.bool x)) : sIf fc f g ρ = if x then f ρ' else g ρ' := by
  obtain ⟨w, h1, h2⟩ := hc
  unfold sIf sE
  rw [h1]
  dsimp only
  rw [h2]
  cases x <;> rfl
theorem Ev.ixO {ρ : Env} {i t : Nat} {ds : List D} {fb : Env → RE} {j : Nat} {d : D} (h : ρ[i]? = some (some (.own t ds))) (hb : Ev fb ρ (.int (j : Nat))) (hd : ds[j]? = some d) : Ev (fIxO i fb) ρ d := by
  obtain ⟨w, h1, h2⟩ := hb
  unfold Ev fIxO
  rw [h]
  dsimp only
  rw [h1]
  dsimp only
  rw [h, h2]
  have hl : j < ds.length := (List.getElem?_eq_some_iff.mp hd).1
  have e : atI ds (j : Int) = some d := by
    unfold atI ixN
    rw [if_pos (by omega), if_pos (by omega)]
    show ds[((j : Int)).toNat]? = _
    rw [Int.toNat_natCast]
    exact hd
  dsimp only
  rw [e]
  exact ⟨_, rfl, rfl⟩
theorem Nx.setO {ρ : Env} {i t : Nat} {ds : List D} {fv fi : Env → RE} {j : Nat} {d : D} (h : ρ[i]? = some (some (.own t ds))) (hv : Ev fv ρ d) (hi : Ev fi ρ (.int (j : Nat))) (hj : j < ds.length) : Nx (sSetO i fv fi) ρ (ρ.set i (some (.own t (ds.set j d)))) := by
  obtain ⟨w, h1, rfl⟩ := hv
  obtain ⟨w2, h3, h4⟩ := hi
  unfold Nx sSetO sE
  rw [h1]
  dsimp only
  rw [h]
  dsimp only
  rw [h3]
  dsimp only
  rw [h, h4]
  dsimp only
  have e : ixN ds.length (j : Int) = some j := by
    unfold ixN
    rw [if_pos (by omega), if_pos (by omega), Int.toNat_natCast]
  rw [e]
/-- a comprehension that draws, at most B draws -/
theorem lc_st {α : Type} {bind : D → Env → Option Env} {fe : Env → RE} {vs : List Nat} (φ : α → D) (k B : Nat) (Inv : Nat → Env → Prop) (Pd : D → Prop) : ∀ (xs : List α) (acc : List D) (m : Nat) (ρ : Env), acc.length + xs.length ≤ sizeLine → m + k * xs.length ≤ B → Inv m ρ →
    (∀ x ∈ xs, ∀ m ρ, Inv m ρ → m + k ≤ B → ∃ ρ1 ρ3 d, bind (φ x) ρ = some ρ1 ∧ EvS fe ρ1 ρ3 d ∧ Inv (m + k) (wipeE ρ3 vs) ∧ Pd d) →
    ∃ ds ρ', lcGo bind (fC (.bool true)) fe vs (xs.map φ) acc ρ = .ok (.frs (acc ++ ds)) ρ' ∧ ds.length = xs.length ∧ (∀ d ∈ ds, Pd d) ∧ Inv (m + k * xs.length) ρ'
  | [], acc, m, ρ, _, _, hI, _ => ⟨[], ρ, by simp [lcGo], rfl, fun d hd => absurd hd (by simp), by simpa using hI⟩
  | x :: r, acc, m, ρ, hl, hB, hI, h => by
    have hk : m + k + k * r.length = m + k * (x :: r).length := by
      rw [List.length_cons, Nat.mul_add, Nat.mul_one]; omega
    obtain ⟨ρ1, ρ3, d, h1, ⟨w, h2, rfl⟩, h3, h4⟩ := h x List.mem_cons_self m ρ hI (by omega)
    have hl2 : acc.length + r.length + 1 ≤ sizeLine := by simpa [Nat.add_assoc] using hl
    obtain ⟨ds, ρ', q1, q2, q3, q4⟩ := lc_st φ k B Inv Pd r (acc ++ [w.d]) (m + k) (wipeE ρ3 vs) (by simp; omega) (by omega) h3 fun y hy => h y (List.mem_cons_of_mem _ hy)
    refine ⟨w.d :: ds, ρ', ?_, by simp [q2], fun y hy => ?_, ?_⟩
    · rw [List.map_cons]
      unfold lcGo
      rw [h1]
      show (match fe ρ1 with
        | .ok w3 ρ3 => if acc.length < sizeLine then lcGo bind (fC (.bool true)) fe vs (r.map φ) (acc ++ [w3.d]) (wipeE ρ3 vs) else .st
        | _ => .st) = _
      rw [h2]
      dsimp only
      rw [if_pos (by omega), q1]
      simp
    · rcases List.mem_cons.mp hy with z | z
      · rw [z]; exact h4
      · exact q3 y z
    · rw [← hk]; exact q4
theorem evs_lc {α : Type} {src : Env → RI} {bind : D → Env → Option Env} {fe : Env → RE} {vs : List Nat} {ρ : Env} (φ : α → D) (k B : Nat) (Inv : Nat → Env → Prop) (Pd : D → Prop) (xs : List α) (m : Nat) (hs : src ρ = .ok (xs.map φ) ρ) (hw : wipeE ρ vs = ρ) (hl : xs.length ≤ sizeLine) (hB : m + k * xs.length ≤ B) (hI : Inv m ρ)
    (h : ∀ x ∈ xs, ∀ m ρ, Inv m ρ → m + k ≤ B → ∃ ρ1 ρ3 d, bind (φ x) ρ = some ρ1 ∧ EvS fe ρ1 ρ3 d ∧ Inv (m + k) (wipeE ρ3 vs) ∧ Pd d) :
    ∃ ds ρ', fLc src bind (fC (.bool true)) fe vs ρ = .ok (.frs ds) ρ' ∧ ds.length = xs.length ∧ (∀ d ∈ ds, Pd d) ∧ Inv (m + k * xs.length) ρ' := by
  obtain ⟨ds, ρ', h1, h2⟩ := lc_st φ k B Inv Pd xs [] m ρ (by simpa using hl) hB hI h
  refine ⟨ds, ρ', ?_, h2⟩
  unfold fLc
  rw [hs]
  dsimp only
  rw [hw, h1]
  rfl
end DL
namespace K54
open PySem L2 PyProof.Rows DL GM
/-- the generator's list -/
def Gen (m : Nat) (ds : List D) : Prop := ∃ a s c : Int, ds = [.int a, .int s, .int c] ∧ 0 ≤ a ∧ 0 ≤ s ∧ s < 2147483647 ∧ 0 ≤ c ∧ c ≤ (m : Nat)
theorem fmod_range {i j : Int} (hj : 0 < j) : 0 ≤ i.fmod j ∧ i.fmod j < j := ⟨Int.fmod_nonneg_of_pos i hj, Int.fmod_lt_of_pos i hj⟩
theorem ev_mod {ρ : DL.Env} {fa fb : DL.Env → RE} {i j : Int} (ha : Ev fa ρ (.int i)) (hb : Ev fb ρ (.int j)) (h : j ≠ 0) : Ev (fOp2 gMod fa fb) ρ (.int (i.fmod j)) := by
  refine Ev.op2 (w := .pu (.int (i.fmod j))) ha hb ?_
  show (if decide (j ≠ 0) then _ else _) = _
  rw [decide_eq_true h]; rfl
theorem ev_mul {ρ : DL.Env} {fa fb : DL.Env → RE} {i j : Int} (ha : Ev fa ρ (.int i)) (hb : Ev fb ρ (.int j)) (h : i.natAbs < 2 ^ 64 ∨ j.natAbs < 2 ^ 64) : Ev (fOp2 gMul fa fb) ρ (.int (i * j)) := by
  refine Ev.op2 (w := .pu (.int (i * j))) ha hb ?_
  show (if cMul i j then some (W.pu (.int (i * j))) else none) = _
  have e : cMul i j = true := by
    unfold cMul
    rcases h with h | h
    · rw [decide_eq_true h]; rfl
    · rw [decide_eq_true h]; simp
  rw [e]; rfl
theorem ev_int {ρ : DL.Env} {fa : DL.Env → RE} {i : Int} (ha : Ev fa ρ (.int i)) : Ev (bndA (fCons fa (fNil)) gInt1) ρ (.int i) := Ev.bndA (w := .pu (.int i)) (.cons ha .nil) rfl
theorem fr_l_hash {s c : Int} (hs : 0 ≤ s) (hs2 : s < 2147483647) (hc : 0 ≤ c) (hc2 : c < 2 ^ 60) : ∃ z : Int, Fr F_l_hash [.int s, .int c] (.int z) := by
  refine ⟨_, fr_of (Rt.seq (Nx.put (ev_mod (ev_int (ev_addI (ev_addI (ev_addI (ev_mul (.var rfl) .k (.inl ?_)) (ev_mul (ev_mul .k (.var rfl) (.inl (by decide))) (.var rfl) (.inr ?_))) (ev_mul .k (.var rfl) (.inl (by decide)))) .k)) .k (by decide))) (Rt.seq (Nx.put (ev_mod (ev_int (ev_addI (ev_addI (ev_mul (.var rfl) (.var rfl) (.inl ?_)) (ev_mul .k (.var rfl) (.inl (by decide)))) .k)) .k (by decide))) (.ret (ev_mod (ev_int (ev_mul (.var rfl) .k (.inr (by decide)))) .k (by decide)) rfl)))⟩
  · omega
  · omega
  · have := fmod_range (i := s * 1140671 + 27644437 * c * c + 131 * c + 19) (j := 2147483629) (by decide)
    omega
theorem bits_small {b : Int} (h1 : 1 ≤ b) (h2 : b ≤ 1000) : ((Builtin.Int.intBits b : Nat) : Int).fdiv 30 = 0 := by
  have h3 : Builtin.Int.intBits b ≤ 10 := by
    unfold Builtin.Int.intBits
    have : (b == 0) = false := by
      rw [beq_eq_false_iff_ne]; omega
    rw [this]
    have h4 : b.natAbs < 2 ^ 10 := by omega
    have := (Nat.log2_lt (by omega)).mpr h4
    simp only [Bool.false_eq_true, if_false]
    omega
  rw [Int.fdiv_eq_ediv_of_nonneg _ (by decide)]
  omega
theorem random_ok {ds : List D} {m : Nat} {b : Int} (G : Gen m ds) (hm : m < 2 ^ 50) (h1 : 1 ≤ b) (h2 : b ≤ 1000) : ∃ (r : Nat) (ds2 : List D), FrO F_l_random ds [.int b] ds2 (.int (r : Nat)) ∧ (r : Int) < b ∧ Gen (m + 1) ds2 := by
  obtain ⟨a, s, c, rfl, ha, hs, hs2, hc, hc2⟩ := G
  have up : ∀ z : Int, 0 ≤ z → ∃ n : Nat, z = (n : Nat) := fun z hz => ⟨z.toNat, by rw [Int.toNat_of_nonneg hz]⟩
  have t1 : Ev (fOp2 gGt (fIxO 0 (fC (.int 0))) (fC (.int 0))) [some (.own 1 [.int a, .int s, .int c]), some (.pu (.int b)), none, none] (.bool (decide (0 < a))) := ev_gt (.ixO (j := 0) rfl .k rfl) .k
  by_cases h : 0 < a
  · obtain ⟨n, hn⟩ := up (a.fmod b) (fmod_range (by omega)).1
    have lt := (fmod_range (i := a) (j := b) (by omega)).2
    have s1 : Nx (sPut 2 (fOp2 gMod (bndA (fCons (fIxO 0 (fC (.int 0))) (fNil)) gInt1) (fVar 1))) [some (.own 1 [.int a, .int s, .int c]), some (.pu (.int b)), none, none] [some (.own 1 [.int a, .int s, .int c]), some (.pu (.int b)), some (.pu (.int (a.fmod b))), none] := Nx.put (ev_mod (ev_int (.ixO (j := 0) rfl .k rfl)) (.var rfl) (by omega))
    have s2 : Nx (sSetO 0 (fOp2 gDiv (fIxO 0 (fC (.int 0))) (fVar 1)) (fC (.int 0))) [some (.own 1 [.int a, .int s, .int c]), some (.pu (.int b)), some (.pu (.int (a.fmod b))), none] [some (.own 1 [.int (a.fdiv b), .int s, .int c]), some (.pu (.int b)), some (.pu (.int (a.fmod b))), none] := by
      refine Nx.setO (j := 0) (t := 1) (ds := [.int a, .int s, .int c]) (d := .int (a.fdiv b)) rfl ?_ .k (by show 0 < 3; decide)
      refine Ev.op2 (w := .pu (.int (a.fdiv b))) (.ixO (j := 0) rfl .k rfl) (.var rfl) ?_
      show (if cDiv a b then some (W.pu (.int (a.fdiv b))) else none) = _
      have e : cDiv a b = true := by
        unfold cDiv
        rw [decide_eq_true (show b ≠ 0 by omega), decide_eq_true (show b.natAbs < 1073741824 by omega)]; rfl
      rw [e]; rfl
    refine ⟨n, [.int (a.fdiv b), .int s, .int c], frO_of (w := .pu (.int (a.fmod b))) (ρ' := [some (.own 1 [.int (a.fdiv b), .int s, .int c]), some (.pu (.int b)), some (.pu (.int (a.fmod b))), none]) ?_ (by rw [← hn]; rfl) rfl, by omega, a.fdiv b, s, c, rfl, ?_, hs, hs2, hc, by omega⟩
    · show g_l_random [some (.own 1 [.int a, .int s, .int c]), some (.pu (.int b)), none, none] = _
      unfold g_l_random
      refine seq_ret ?_
      rw [if_eq t1, decide_eq_true h]
      simp only [if_true]
      rw [seq_nx s1, seq_nx s2]
      rfl
    · rw [Int.fdiv_eq_ediv_of_nonneg _ (by omega)]
      exact Int.ediv_nonneg ha (by omega)
  · obtain ⟨hz, fh⟩ := fr_l_hash (s := s) (c := c + 1) hs hs2 (by omega) (by omega)
    obtain ⟨n, hn⟩ := up (hz.fmod b) (fmod_range (by omega)).1
    have lt := (fmod_range (i := hz) (j := b) (by omega)).2
    let e0 : DL.Env := [some (.own 1 [.int a, .int s, .int c]), some (.pu (.int b)), some (.pu (.int 0)), none]
    let e1 : DL.Env := [some (.own 1 [.int a, .int s, .int (c + 1)]), some (.pu (.int b)), some (.pu (.int (0 * 2147483587 + hz))), some (.pu (.int 0))]
    have s1 : Nx (sPut 2 (fC (.int 0))) [some (.own 1 [.int a, .int s, .int c]), some (.pu (.int b)), none, none] e0 := Nx.put .k
    have s2 : Nx (sFor (srcA (fCons (fOp2 gAdd (fC (.int 1)) (fOp2 gDiv (fOp1 gBits (fVar 1)) (fC (.int 30)))) (fNil)) kRng1) (bName 3) (sSeq (sSetO 0 (fOp2 gAdd (fIxO 0 (fC (.int 2))) (fC (.int 1))) (fC (.int 2))) (sPut 2 (fOp2 gAdd (fOp2 gMul (fVar 2) (fC (.int 2147483587))) (fCall 2 F_l_hash (fCons (fIxO 0 (fC (.int 1))) (fCons (fIxO 0 (fC (.int 2))) (fNil)))))))) e0 e1 := by
      unfold Nx sFor
      have r1 : kRng1 [.int (1 + 0)] = some [.int 0] := by
        have z := rng1 (n := 1) (by decide)
        exact z
      have dv : Ev (fOp2 gDiv (fOp1 gBits (fVar 1)) (fC (.int 30))) e0 (.int 0) := by
        have z := Ev.op2 (g := gDiv) (w := .pu (.int (((Builtin.Int.intBits b : Nat) : Int).fdiv 30))) (fa := fOp1 gBits (fVar 1)) (fb := fC (.int 30)) (ρ := e0) (a := .int (Builtin.Int.intBits b : Nat)) (Ev.op1 (w := .pu (.int (Builtin.Int.intBits b : Nat))) (.var rfl) rfl) .k rfl
        rw [bits_small h1 h2] at z
        exact z
      rw [srcA_ok (.cons (ev_addI .k dv) .nil) r1]
      dsimp only
      refine for_cons (ρ1 := [some (.own 1 [.int a, .int s, .int c]), some (.pu (.int b)), some (.pu (.int 0)), some (.pu (.int 0))]) (ρ2 := e1) rfl ?_ rfl
      exact Nx.seq (ρ1 := [some (.own 1 [.int a, .int s, .int (c + 1)]), some (.pu (.int b)), some (.pu (.int 0)), some (.pu (.int 0))]) (Nx.setO (j := 2) (t := 1) (ds := [.int a, .int s, .int c]) rfl (ev_addI (.ixO (j := 2) rfl .k rfl) .k) .k (by show 2 < 3; decide))
        (Nx.put (ev_addI (ev_mul (.var rfl) .k (.inl (by decide))) (.call (.cons (.ixO (j := 1) (d := .int s) rfl .k rfl) (.cons (.ixO (j := 2) (d := .int (c + 1)) rfl .k rfl) .nil)) fh rfl)))
    refine ⟨n, [.int a, .int s, .int (c + 1)], frO_of (w := .pu (.int ((0 * 2147483587 + hz).fmod b))) (ρ' := e1) ?_ (by rw [Int.zero_mul, Int.zero_add, ← hn]; rfl) rfl, by omega, a, s, c + 1, rfl, ha, hs, hs2, by omega, by omega⟩
    show g_l_random [some (.own 1 [.int a, .int s, .int c]), some (.pu (.int b)), none, none] = _
    unfold g_l_random
    rw [seq_nx (show Nx _ _ _ from Nx.if t1 (fun z => absurd (of_decide_eq_true z) h) fun _ => .nx), seq_nx s1, seq_nx s2]
    have r : Ev (fOp2 gMod (bndA (fCons (fVar 2) (fNil)) gInt1) (fVar 1)) e1 (.int ((0 * 2147483587 + hz).fmod b)) := ev_mod (ev_int (.var rfl)) (.var rfl) (by omega)
    obtain ⟨w, q1, q2⟩ := r
    unfold sRet sE
    rw [q1]
    dsimp only
    cases w with
    | pu d => rw [show d = _ from q2]
    | frs es => cases q2
end K54
/-! E2: what is refused. -/
namespace K54
open PySem L2 PyProof.Rows DL
def exNames : List Str := ["InvalidLayout", "InvalidTable", "InvalidBounds", "InvalidReport", "InvalidPart", "InvalidNumber", "InvalidNames", "InvalidText", "InvalidLot", "InvalidWeights", "InvalidLines", "InvalidMargins", "InvalidEdit", "Unlike", "TooMany"]
structure Exs (P : Program) (K : PySem.W.Frag) (mg : Str → Option Value) (ca : Str → Addr) : Prop where
  t : ∀ n ∈ exNames, DLX.ExT P K mg n (ca n)
  k : ∀ n ∈ exNames, ExK K (ca n)
  kit : ∀ n ∈ exNames, ∀ m ∈ exNames, PySem.W.kitOne K (.ref (ca n)) (.ref (ca m)) = some (decide (n = m))
  sum : mg "SumError" = some (.ref (ca "SumError"))
  exm : ∀ n ∈ exNames, PySem.W.exmOne K (.ref (ca n)) (.ref (ca "SumError")) = some true
theorem Exs.kcs {P : Program} {K : PySem.W.Frag} {mg : Str → Option Value} {ca : Str → Addr} (X : Exs P K mg ca) : ∀ c ∈ exNames.map ca, ExK K c := fun c h => by
  obtain ⟨n, hn, e⟩ := List.mem_map.mp h
  rw [← e]
  exact X.k n hn
theorem Exs.mgs {P : Program} {K : PySem.W.Frag} {mg : Str → Option Value} {ca : Str → Addr} (X : Exs P K mg ca) (n : Str) (h : n ∈ exNames) : mg n = some (.ref (ca n)) := (X.t n h).gC
abbrev s_l_caught : Stmt := top 41
abbrev N_l_caught : List Str := ["call", "caught", "e", "kinds", "words"]
theorem sc_l_caught : FnScope N_l_caught ["call"] (defScope s_l_caught) := ⟨rfl, rfl, rfl, by decide +kernel, rfl, by decide +kernel, by decide +kernel⟩
def g_l_caughtT (K : PySem.W.Frag) (ca : Str → Addr) : DL.Env → RS := sSeq (sIf (fOp2 gIsN (fVar 1) (fC .none)) (sRet (bndA (fCons (fC (.str "let")) (fCons (fC .none) (fNil))) gMkT)) (.nx)) (sSeq (sPut 3 (bndA (fCons (fOp1 (gIsX K (exNames.map ca) (ca "InvalidLayout")) (fVar 1)) (fCons (fOp1 (gIsX K (exNames.map ca) (ca "InvalidTable")) (fVar 1)) (fCons (fOp1 (gIsX K (exNames.map ca) (ca "InvalidBounds")) (fVar 1)) (fCons (fOp1 (gIsX K (exNames.map ca) (ca "InvalidReport")) (fVar 1)) (fNil))))) gMkL)) (sSeq (sPut 3 (fOp2 gAdd (fVar 3) (bndA (fCons (fOp1 (gIsX K (exNames.map ca) (ca "InvalidPart")) (fVar 1)) (fCons (fOp1 (gIsX K (exNames.map ca) (ca "InvalidNumber")) (fVar 1)) (fCons (fOp1 (gIsX K (exNames.map ca) (ca "InvalidNames")) (fVar 1)) (fCons (fOp1 (gIsX K (exNames.map ca) (ca "InvalidText")) (fVar 1)) (fNil))))) gMkL))) (sSeq (sPut 3 (fOp2 gAdd (fVar 3) (bndA (fCons (fOp1 (gIsX K (exNames.map ca) (ca "InvalidLot")) (fVar 1)) (fCons (fOp1 (gIsX K (exNames.map ca) (ca "InvalidWeights")) (fVar 1)) (fCons (fOp1 (gIsX K (exNames.map ca) (ca "InvalidLines")) (fVar 1)) (fCons (fOp1 (gIsX K (exNames.map ca) (ca "InvalidMargins")) (fVar 1)) (fNil))))) gMkL))) (sSeq (sPut 3 (fOp2 gAdd (fVar 3) (bndA (fCons (fOp1 (gIsX K (exNames.map ca) (ca "InvalidEdit")) (fVar 1)) (fCons (fOp1 (gIsX K (exNames.map ca) (ca "Unlike")) (fVar 1)) (fCons (fOp1 (gIsX K (exNames.map ca) (ca "TooMany")) (fVar 1)) (fNil)))) gMkL))) (sSeq (sPut 4 (bndA (fCons (fC (.str "layout")) (fCons (fC (.str "table")) (fCons (fC (.str "bounds")) (fCons (fC (.str "report")) (fCons (fC (.str "part")) (fCons (fC (.str "number")) (fCons (fC (.str "names")) (fCons (fC (.str "text")) (fCons (fC (.str "lot")) (fCons (fC (.str "weights")) (fCons (fC (.str "lines")) (fCons (fC (.str "margins")) (fCons (fC (.str "edit")) (fCons (fC (.str "unlike")) (fCons (fC (.str "many")) (fNil)))))))))))))))) gMkL)) (sRet (fIf (fOp2 gEq (fOp1 gCntT (fVar 3)) (fC (.int 1))) (bndA (fCons (fOp2 gIx (fVar 4) (fOp1 gIdxT (fVar 3))) (fCons (fOp1 (gVal (exNames.map ca)) (fVar 1)) (fNil))) gMkT) (bndA (fCons (fC (.str "odd")) (fCons (fC .none) (fNil))) gMkT))))))))
theorem b_l_caughtT {P : Program} {w : World} {K : PySem.W.Frag} {mg : Str → Option Value} {base : Heap} {ca : Str → Addr} (B : Bl mg) (X : Exs P K mg ca) {f : Addr} {cdv : Value} {A : Around} {outer : List PySem.Env} {s : Shared} {H : Hp} {E : XK} {k : Nat} (c : Cn (fx P w K mg base N_l_caught "_law_caught" s_l_caught f cdv A outer s H E) E k) :
    DSs (fx P w K mg base N_l_caught "_law_caught" s_l_caught f cdv A outer s H E) E ((defBody s_l_caught).drop 2) (g_l_caughtT K ca) := by
  have nd := sc_l_caught.nd
  exact dss_cons (ds_if (t_is (de_var (pv 1)) (de_non)) (dss_one (ds_ret (de_mkT (da_cons (de_str) (da_cons (de_non) (da_nil)))))) (dss_nil))
    (dss_cons (ds_put (i := 3) nd rfl (by first | exact .inl rfl | exact .inr rfl) (de_mkL (da_cons (de_isX B X.kcs (X.mgs "InvalidLayout" (by decide)) (de_var (pv 1))) (da_cons (de_isX B X.kcs (X.mgs "InvalidTable" (by decide)) (de_var (pv 1))) (da_cons (de_isX B X.kcs (X.mgs "InvalidBounds" (by decide)) (de_var (pv 1))) (da_cons (de_isX B X.kcs (X.mgs "InvalidReport" (by decide)) (de_var (pv 1))) (da_nil)))))))
    (dss_cons (ds_put (i := 3) nd rfl (by first | exact .inl rfl | exact .inr rfl) (d_add (de_var (pv 3)) (de_mkL (da_cons (de_isX B X.kcs (X.mgs "InvalidPart" (by decide)) (de_var (pv 1))) (da_cons (de_isX B X.kcs (X.mgs "InvalidNumber" (by decide)) (de_var (pv 1))) (da_cons (de_isX B X.kcs (X.mgs "InvalidNames" (by decide)) (de_var (pv 1))) (da_cons (de_isX B X.kcs (X.mgs "InvalidText" (by decide)) (de_var (pv 1))) (da_nil))))))))
    (dss_cons (ds_put (i := 3) nd rfl (by first | exact .inl rfl | exact .inr rfl) (d_add (de_var (pv 3)) (de_mkL (da_cons (de_isX B X.kcs (X.mgs "InvalidLot" (by decide)) (de_var (pv 1))) (da_cons (de_isX B X.kcs (X.mgs "InvalidWeights" (by decide)) (de_var (pv 1))) (da_cons (de_isX B X.kcs (X.mgs "InvalidLines" (by decide)) (de_var (pv 1))) (da_cons (de_isX B X.kcs (X.mgs "InvalidMargins" (by decide)) (de_var (pv 1))) (da_nil))))))))
    (dss_cons (ds_put (i := 3) nd rfl (by first | exact .inl rfl | exact .inr rfl) (d_add (de_var (pv 3)) (de_mkL (da_cons (de_isX B X.kcs (X.mgs "InvalidEdit" (by decide)) (de_var (pv 1))) (da_cons (de_isX B X.kcs (X.mgs "Unlike" (by decide)) (de_var (pv 1))) (da_cons (de_isX B X.kcs (X.mgs "TooMany" (by decide)) (de_var (pv 1))) (da_nil)))))))
    (dss_cons (ds_put (i := 4) nd rfl (by first | exact .inl rfl | exact .inr rfl) (de_mkL (da_cons (de_str) (da_cons (de_str) (da_cons (de_str) (da_cons (de_str) (da_cons (de_str) (da_cons (de_str) (da_cons (de_str) (da_cons (de_str) (da_cons (de_str) (da_cons (de_str) (da_cons (de_str) (da_cons (de_str) (da_cons (de_str) (da_cons (de_str) (da_cons (de_str) (da_nil))))))))))))))))))
    (dss_one (ds_ret (de_if (t_eq c (de_cntT c (de_var (pv 3))) (de_int)) (de_mkT (da_cons (d_ix (de_var (pv 4)) (de_idxT (de_var (pv 3)))) (da_cons (de_value X.kcs (de_var (pv 1))) (da_nil)))) (de_mkT (da_cons (de_str) (da_cons (de_non) (da_nil))))))))))))

def foD : FO → D
  | .lets => .none
  | .err c d => excD c d
theorem srep_one {K : PySem.W.Frag} {τ : Nat → Addr} {T : List Addr} {H : Hp} {σ : L2.St} {v : V} {d : D} (tr : ∀ a ∈ T, H a ≠ none) (tb : LamX.Tabs (TbK K) H) (hl : σ.length = 5) (h1 : σ[1]? = some (some v)) (r : Rp K (hid T H) v d) : SRep K τ T H σ [none, some (.pu d), none, none, none] [] := by
  have at_ : ∀ {i : Nat} {s : Sl}, ([none, some (.pu d), none, none, none] : DL.Env)[i]? = some (some s) → i = 1 ∧ s = .pu d := fun {i s} z => by
    match i with
    | 0 => simp at z
    | 1 => exact ⟨rfl, by simpa using z.symm⟩
    | 2 => simp at z
    | 3 => simp at z
    | 4 => simp at z
    | n + 5 => simp at z
  refine ⟨fun i m d2 q => ?_, fun i t ds q => ?_, fun i j t u es fs p hij e1 => ?_, tr, hl, fun p hp => absurd hp (by simp), tb, fun i g q => ?_⟩
  · obtain ⟨rfl, e⟩ := at_ q
    cases e
    exact ⟨v, h1, r, fun z => nomatch z⟩
  · cases (at_ q).2
  · cases (at_ e1).2
  · cases (at_ q).2
section
variable {P : Program} {w : World} {K : PySem.W.Frag} {mg : Str → Option Value} {base : Heap} {ca : Str → Addr}
theorem caught_run (B : Bl mg) (X : Exs P K mg ca) {fc : Addr} {fdc : FuncData} (F : FunD K "_law_caught" "_law_caught" (defArgs s_l_caught) (defBody s_l_caught) (defScope s_l_caught) [] [] fc fdc) {A : Around} {outer : List PySem.Env} {s : Shared} {H : Hp} {fl : Addr} {T : List Addr} {o : FO} {k : Nat} {Q : VK} {E : XK} {dres : D} {ρ' : DL.Env}
    (hgd : A.guards = some []) (hr : Room (k + 1) A) (e0 : Env0 P w K mg base A outer s H) (C : Can P w K mg base k H T fl o) (tr : ∀ a ∈ T, H a ≠ none) (tb : LamX.Tabs (TbK K) H) (hex : ∀ c d, o = .err c d → ∃ n ∈ exNames, c = ca n)
    (hres : g_l_caughtT K ca [none, some (.pu (foD o)), none, none, none] = .ret (.pu dres) ρ') (hq : ∀ v H', Gr K H H' → Rp K (hid T H') v dres → Q v H') :
    codeAny (model P w) A (.call (.ref fc) ⟨[.ref fl], []⟩) (CR (L2.CX P w) outer P w H s Q E) s := by
  obtain ⟨oc, od, kV, doc, pm, an, cdv, ct, osl, rfl, lk, hcd⟩ := (Fun.ofD F).ex
  refine LamX.run_ofS (N := N_l_caught) (ps := ["call"]) (us := [.ref fl]) (vs := [.ref fl]) lk hcd sc_l_caught hr e0 (.of_eq (by first | rfl | with_unfolding_all rfl)) (.cons rfl .nil) rfl fun hr2 => ?_
  have nd := sc_l_caught.nd
  have cn : Cn (fx P w K mg base N_l_caught "_law_caught" s_l_caught fc cdv A outer s H E) E k := ⟨hgd, hr2, passes_call (W := fun cls d _ H => E cls d H) (takes_of rfl rfl rfl rfl) (fun _ _ _ _ h => h), takes_of rfl rfl rfl rfl, rfl⟩
  refine ⟨_, pss_cons (ps_set nd (i := 1) rfl (.inl rfl) pe_non) (pss_cons (ps_hold (i := 2) (j := 1) (c := .ref (ca "SumError")) rfl rfl rfl nd rfl rfl rfl rfl (fun σ z => by rw [z]; show 2 < N_l_caught.length; decide) ⟨rfl, by decide, .inl X.sum⟩ cn.tk (by decide) (by decide) (fun Y hY => by rw [hY]; rfl)
    (tb := fun W => tDrop fun σ HZ Q => σ[0]? = some (some (.ref fl)) ∧ Gr K H HZ ∧ (∀ a ∈ T, HZ a ≠ none) ∧ LamX.Tabs (TbK K) HZ ∧ FOut K (WE W σ) T HZ o Q)
    (fun W pn xe tk _ => pss_one (ps_expr (pe_can (Y := fx P w K mg base N_l_caught "_law_caught" s_l_caught fc cdv A outer s H E) (i := 0) C hgd hr2 tk rfl (.inl rfl))))) (b_l_caughtT B X cn).pss), ?_⟩
  have fin : ∀ {σ : L2.St} {H' : Hp} {v : V}, σ.length = 5 → σ[1]? = some (some v) → Gr K H H' → Rp K (hid T H') v (foD o) → tDS K E (g_l_caughtT K ca) { nx := fun _ H' => Q .non H', rt := Q } σ H' := fun {σ H' v} h1 h2 g r => by
    refine ⟨fun _ => 0, T, [], _, srep_one (fun a z w => tr a z (g.al a w)) (g.tb tb) h1 h2 r, ?_⟩
    rw [hres]
    exact fun v2 σ2 H2 P2 t _ r2 => hq v2 H2 (g.trans t.toGr) (r2.ext (hid_less fun a z => List.mem_append_right _ z))
  refine ⟨rfl, Ext.gr (Ext.rfl H), tr, tb, ?_⟩
  cases o with
  | lets => exact fun v H' g => fin rfl rfl g .non
  | err c d =>
    intro dx v H' g hx hv
    obtain ⟨n, hn, rfl⟩ := hex c d rfl
    refine ⟨true, X.exm n hn, fun _ => ⟨ca n, dx, rfl, rfl, fun a na => ?_⟩, fun z => nomatch z⟩
    have ex : Ext H' (upd H' a (XO (ca n) dx a)) := Evl.Ex.new na
    have aT : a ∉ T := fun z => tr a z (g.al a na)
    have dT : dx ∉ T := fun z => tr dx z hx.1
    refine fin rfl rfl (g.trans ex.gr) (v := .ref a) (.exc (hid_in aT upd_same) (hid_in dT (ex _ _ hx.2)) (hv.ext (Gr.hid (K := K) ex.gr)))
end
abbrev s_l_refused : Stmt := top 43
abbrev N_l_refused : List Str := ["call", "word", "value", "told"]
theorem sc_l_refused : FnScope N_l_refused ["call", "word", "value"] (defScope s_l_refused) := ⟨rfl, rfl, rfl, by decide +kernel, rfl, by decide +kernel, by decide +kernel⟩
def g_l_refusedT : DL.Env → RS := sRet (fAnd (fOp2 gEq (fOp2 gIx (fVar 3) (fC (.int 0))) (fVar 1)) (fCall 2 F_l_alike (fCons (fOp2 gIx (fVar 3) (fC (.int 1))) (fCons (fVar 2) (fNil)))))
theorem b_l_refusedT {P : Program} {w : World} {K : PySem.W.Frag} {mg : Str → Option Value} {base : Heap} {ca : Str → Addr} (B : Bl mg) (d_l_alike : Df P w K mg base "_law_alike" s_l_alike 1 ["told", "due"] F_l_alike) {f : Addr} {cdv : Value} {A : Around} {outer : List PySem.Env} {s : Shared} {H : Hp} {E : XK} (c : Cn (fx P w K mg base N_l_refused "_law_refused" s_l_refused f cdv A outer s H E) E 1) :
    DSs (fx P w K mg base N_l_refused "_law_refused" s_l_refused f cdv A outer s H E) E ((defBody s_l_refused).drop 1) (g_l_refusedT) := by
  have nd := sc_l_refused.nd
  exact dss_one (ds_ret (de_and (d_eq c.rm.units (d_ix (de_var (pv 3)) (de_int)) (de_var (pv 1))) (de_one (de_call d_l_alike c (da_cons (d_ix (de_var (pv 3)) (de_int)) (da_cons (de_var (pv 2)) (da_nil)))))))

end K54
/-! E3: refused, all refused. -/
namespace K54
open PySem L2 PyProof.Rows DL
section
variable {Y : Cx} {ca : Str → Addr}
theorem pe_caught (B : Bl Y.mg) (X : Exs Y.prog Y.K Y.mg ca) {fc : Addr} {fdc : FuncData} (F : FunD Y.K "_law_caught" "_law_caught" (defArgs s_l_caught) (defBody s_l_caught) (defScope s_l_caught) [] [] fc fdc) (hm : Y.mg "_law_caught" = some (.ref fc)) {H0 : Hp} {T : List Addr} {fl : Addr} {o : FO} {k i : Nat} {a : Str} {dres : D} {ρ' : DL.Env} {p p1 pos : Pos}
    (C : Can Y.prog Y.w Y.K Y.mg Y.base k H0 T fl o) (hgd : Y.A.guards = some []) (hr : Room (k + 1) Y.A) (hex : ∀ c d, o = .err c d → ∃ n ∈ exNames, c = ca n) (hres : g_l_caughtT Y.K ca [none, some (.pu (foD o)), none, none, none] = .ret (.pu dres) ρ') (ha : PE Y (.Name a p1) (tVar i))
    (hg : Gl Y "_law_caught" := by rfl) (he : starEach [.Name a p1] Y.env = (false, eval (.Name a p1) Y.env) :: starEach [] Y.env := by rfl) (hpl : (backTo pos (starEach [] Y.env)).any (·.1) = false := by rfl) :
    PE Y (.Call (.Name "_law_caught" p) [.Name a p1] [] pos) (fun σ H Q => σ[i]? = some (some (.ref fl)) ∧ Gr Y.K H0 H ∧ (∀ a ∈ T, H a ≠ none) ∧ LamX.Tabs (TbK Y.K) H ∧ ∀ v H', Gr Y.K H H' → Rp Y.K (hid T H') v dres → Q v H') := by
  refine ⟨fun pins s σ H Q I ⟨hσ, g, tr, tb, q⟩ => ?_⟩
  refine wpAny_Call_Name_kw (ld_glob I hg hm ?_ (by decide))
  refine PySem.W.callWith_K (h₀ := Y.base) I.ok.mod.kin F.kp (thn ((pa_cons ha pa_nil he).run pos pins s σ H (fun vs H1 => vs = [.ref fl] ∧ H1 = H) I ⟨.ref fl, hσ, rfl, rfl⟩) fun us s1 ⟨vs, H1, I1, r, e1, e2⟩ => ⟨I1.kIn, ?_⟩) he hpl
  subst e1
  rw [e2] at I1
  have eu := Vals.ref1 r
  subst eu
  refine wpAny_call (codeAny_mono (caught_run (Q := Q) (E := L2.E0) B X F hgd hr I1.env0 (C.later g (fun _ z => z) (fun a z => .inl z)) tr tb hex hres q) fun r s' hq => ?_)
  cases r with
  | error e => exact (passL (X := Y) pins σ H s1 e s' I1 hq)
  | ok fl =>
    cases fl with
    | ret u => exact I1.after hq
    | next => exact False.elim hq
    | brk => exact False.elim hq
    | cont => exact False.elim hq
end
theorem srep_of {K : PySem.W.Frag} {τ : Nat → Addr} {T : List Addr} {H : Hp} {σ : L2.St} {ρ : DL.Env} (tr : ∀ a ∈ T, H a ≠ none) (tb : LamX.Tabs (TbK K) H) (hl : σ.length = ρ.length) (hp : ∀ (i : Nat) (s : Sl), ρ[i]? = some (some s) → ∃ d v, s = .pu d ∧ σ[i]? = some (some v) ∧ Rp K (hid T H) v d) : SRep K τ T H σ ρ [] := by
  refine ⟨fun i m d q => ?_, fun i t ds q => ?_, fun i j t u es fs p hij e1 => ?_, tr, hl, fun p hp => absurd hp (by simp), tb, fun i g q => ?_⟩
  · obtain ⟨d', v, e, h1, h2⟩ := hp i _ q
    cases e
    exact ⟨v, h1, h2, fun z => nomatch z⟩
  · obtain ⟨d', v, e, _⟩ := hp i _ q
    cases e
  · obtain ⟨d', v, e, _⟩ := hp i _ e1
    cases e
  · obtain ⟨d', v, e, _⟩ := hp i _ q
    cases e
section
variable {P : Program} {w : World} {K : PySem.W.Frag} {mg : Str → Option Value} {base : Heap} {ca : Str → Addr}
/-- what is asked of a refusal: the error's class by its name, the word, the value, its text -/
structure RefOk (K : PySem.W.Frag) (ca : Str → Addr) (n wd : Str) (d : D) : Prop where
  hn : n ∈ exNames
  hc : ∃ ρ', g_l_caughtT K ca [none, some (.pu (excD (ca n) d)), none, none, none] = .ret (.pu (.tuple [.str wd, d])) ρ'
  hr : ∃ ρ', g_l_refusedT [none, some (.pu (.str wd)), some (.pu d), some (.pu (.tuple [.str wd, d]))] = .ret (.pu (.bool true)) ρ'
theorem refused_run (B : Bl mg) (X : Exs P K mg ca) (d_l_alike : Df P w K mg base "_law_alike" s_l_alike 1 ["told", "due"] F_l_alike) {fc fr : Addr} {fdc fdr : FuncData} (Fc : FunD K "_law_caught" "_law_caught" (defArgs s_l_caught) (defBody s_l_caught) (defScope s_l_caught) [] [] fc fdc) (hmc : mg "_law_caught" = some (.ref fc))
    (Fr : FunD K "_law_refused" "_law_refused" (defArgs s_l_refused) (defBody s_l_refused) (defScope s_l_refused) [] [] fr fdr) {A : Around} {outer : List PySem.Env} {s : Shared} {H : Hp} {fl : Addr} {T : List Addr} {n wd : Str} {d : D} {v : V} {u : Value} {t : Tok} {k : Nat} {Q : VK} {E : XK}
    (hgd : A.guards = some []) (hr : Room (k + 3) A) (e0 : Env0 P w K mg base A outer s H) (C : Can P w K mg base k H T fl (.err (ca n) d)) (ok : RefOk K ca n wd d) (tr : ∀ a ∈ T, H a ≠ none) (tb : LamX.Tabs (TbK K) H) (rv : Rp K (hid T H) v d) (ru : RelV v u) (hq : ∀ H', Gr K H H' → Q (.bl true) H') :
    codeAny (model P w) A (.call (.ref fr) ⟨[.ref fl, .str wd t, u], []⟩) (CR (L2.CX P w) outer P w H s Q E) s := by
  obtain ⟨oc, od, kV, doc, pm, an, cdv, ct, osl, rfl, lk, hcd⟩ := (Fun.ofD Fr).ex
  refine LamX.run_ofS (N := N_l_refused) (ps := ["call", "word", "value"]) (us := [.ref fl, .str wd t, u]) (vs := [.ref fl, .str wd, v]) lk hcd sc_l_refused (hr.mono (j := k + 2 + 1) (Nat.le_refl _)) e0 (.of_eq (by first | rfl | with_unfolding_all rfl)) (.cons rfl (.cons ⟨t, rfl⟩ (.cons ru .nil))) rfl fun hr2 => ?_
  have nd := sc_l_refused.nd
  have cn : Cn (fx P w K mg base N_l_refused "_law_refused" s_l_refused fr cdv A outer s H E) E (k + 2) := ⟨hgd, hr2, passes_call (W := fun cls d _ H => E cls d H) (takes_of rfl rfl rfl rfl) (fun _ _ _ _ h => h), takes_of rfl rfl rfl rfl, rfl⟩
  obtain ⟨ρ1, hc⟩ := ok.hc
  obtain ⟨ρ2, hres⟩ := ok.hr
  refine ⟨_, pss_cons (ps_set nd (i := 3) rfl (.inl rfl) (pe_caught (Y := fx P w K mg base N_l_refused "_law_refused" s_l_refused fr cdv A outer s H E) B X Fc hmc C hgd (hr2.mono (by omega)) (fun c d e => by cases e; exact ⟨n, ok.hn, rfl⟩) hc (pv 0))) (b_l_refusedT (ca := ca) B d_l_alike (cn.mono (by omega))).pss, ?_⟩
  refine ⟨rfl, Ext.gr (Ext.rfl H), tr, tb, fun v2 H2 g r2 => ?_⟩
  refine ⟨fun _ => 0, T, [], [none, some (.pu (.str wd)), some (.pu d), some (.pu (.tuple [.str wd, d]))], srep_of (fun a z w => tr a z (g.al a w)) (g.tb tb) rfl fun i sl q => ?_, ?_⟩
  · match i with
    | 0 => simp at q
    | 1 => exact ⟨_, .str wd, (by simpa using q.symm), rfl, .str wd⟩
    | 2 => exact ⟨_, v, (by simpa using q.symm), rfl, rv.ext g.hid⟩
    | 3 => exact ⟨_, v2, (by simpa using q.symm), rfl, r2⟩
    | n + 4 => simp at q
  · rw [hres]
    intro v3 σ3 H3 P3 t3 _ r3
    rw [rp_bool r3]
    exact hq H3 (g.trans t3.toGr)
end

end K54
/-! E4: all refused. -/
namespace K54
open PySem L2 PyProof.Rows DL
abbrev s_l_all_refused : Stmt := top 44
abbrev N_l_all_refused : List Str := ["calls", "word", "value", "call"]
theorem sc_l_all_refused : FnScope N_l_all_refused ["calls", "word", "value"] (defScope s_l_all_refused) := ⟨rfl, rfl, rfl, by decide +kernel, rfl, by decide +kernel, by decide +kernel⟩
/-- what _law_refused needs of the module -/
structure RefKit (P : Program) (w : World) (K : PySem.W.Frag) (mg : Str → Option Value) (base : Heap) (ca : Str → Addr) : Prop where
  B : Bl mg
  X : Exs P K mg ca
  alike : Df P w K mg base "_law_alike" s_l_alike 1 ["told", "due"] F_l_alike
  caught : ∃ fc fdc, FunD K "_law_caught" "_law_caught" (defArgs s_l_caught) (defBody s_l_caught) (defScope s_l_caught) [] [] fc fdc ∧ mg "_law_caught" = some (.ref fc)
  refused : ∃ fr fdr, FunD K "_law_refused" "_law_refused" (defArgs s_l_refused) (defBody s_l_refused) (defScope s_l_refused) [] [] fr fdr ∧ mg "_law_refused" = some (.ref fr)
def tRefd (P : Program) (w : World) (K : PySem.W.Frag) (mg : Str → Option Value) (base : Heap) (ca : Str → Addr) (k : Nat) (n wd : Str) (d : D) (i j l : Nat) : TE := fun σ H Q => ∃ fl v T, σ[i]? = some (some (.ref fl)) ∧ σ[j]? = some (some (.str wd)) ∧ σ[l]? = some (some v) ∧ Can P w K mg base k H T fl (.err (ca n) d) ∧ Rp K (hid T H) v d ∧ (∀ a ∈ T, H a ≠ none) ∧ LamX.Tabs (TbK K) H ∧ ∀ H', Gr K H H' → Q (.bl true) H'
section
variable {Y : Cx} {ca : Str → Addr}
/-- a call of _law_refused, its arguments three names -/
theorem pe_refused (R : RefKit Y.prog Y.w Y.K Y.mg Y.base ca) {n wd : Str} {d : D} {k i j l : Nat} {x y z : Str} {p p1 p2 p3 pos : Pos} (hgd : Y.A.guards = some []) (hr : Room (k + 3) Y.A) (ok : RefOk Y.K ca n wd d)
    (ha : PE Y (.Name x p1) (tVar i)) (hb : PE Y (.Name y p2) (tVar j)) (hc : PE Y (.Name z p3) (tVar l)) (hg : Gl Y "_law_refused" := by rfl)
    (he : starEach [.Name x p1, .Name y p2, .Name z p3] Y.env = (false, eval (.Name x p1) Y.env) :: starEach [.Name y p2, .Name z p3] Y.env := by rfl) (he2 : starEach [.Name y p2, .Name z p3] Y.env = (false, eval (.Name y p2) Y.env) :: starEach [.Name z p3] Y.env := by rfl)
    (he3 : starEach [.Name z p3] Y.env = (false, eval (.Name z p3) Y.env) :: starEach [] Y.env := by rfl) (hpl : (backTo pos (starEach [.Name y p2, .Name z p3] Y.env)).any (·.1) = false := by rfl) :
    PE Y (.Call (.Name "_law_refused" p) [.Name x p1, .Name y p2, .Name z p3] [] pos) (tRefd Y.prog Y.w Y.K Y.mg Y.base ca k n wd d i j l) := by
  obtain ⟨fc, fdc, Fc, hmc⟩ := R.caught
  obtain ⟨fr, fdr, Fr, hmr⟩ := R.refused
  refine ⟨fun pins s σ H Q I ⟨fl, v, T, h1, h2, h3, C, rv, tr, tb, q⟩ => ?_⟩
  refine wpAny_Call_Name_kw (ld_glob I hg hmr ?_ (by decide))
  refine PySem.W.callWith_K (h₀ := Y.base) I.ok.mod.kin Fr.kp (thn ((pa_cons ha (pa_cons hb (pa_cons hc pa_nil he3) he2) he).run pos pins s σ H (fun vs H1 => vs = [.ref fl, .str wd, v] ∧ H1 = H) I ⟨.ref fl, h1, .str wd, h2, v, h3, rfl, rfl⟩) fun us s1 ⟨vs, H1, I1, r, e1, e2⟩ => ⟨I1.kIn, ?_⟩) he hpl
  subst e1
  rw [e2] at I1
  cases r with
  | cons r1 r =>
    cases r with
    | cons r2 r =>
      cases r with
      | cons r3 r =>
        cases r
        obtain rfl := r1
        obtain ⟨t, rfl⟩ := r2
        refine wpAny_call (codeAny_mono (refused_run (Q := Q) (E := L2.E0) R.B R.X R.alike Fc hmc Fr hgd hr I1.env0 C ok tr tb rv r3 q) fun r s' hq => ?_)
        cases r with
        | error e => exact (passL (X := Y) pins σ H s1 e s' I1 hq)
        | ok fl =>
          cases fl with
          | ret u => exact I1.after hq
          | next => exact False.elim hq
          | brk => exact False.elim hq
          | cont => exact False.elim hq
end
section
variable {P : Program} {w : World} {K : PySem.W.Frag} {mg : Str → Option Value} {base : Heap} {ca : Str → Addr}
theorem all_refused_run (R : RefKit P w K mg base ca) {fr : Addr} {fdr : FuncData} (Fr : FunD K "_law_all_refused" "_law_all_refused" (defArgs s_l_all_refused) (defBody s_l_all_refused) (defScope s_l_all_refused) [] [] fr fdr) {A : Around} {outer : List PySem.Env} {s : Shared} {H : Hp} {p : Addr} {fs : List V} {T : List Addr} {n wd : Str} {d : D} {v : V} {u : Value} {t : Tok} {k : Nat} {Q : VK} {E : XK}
    (hgd : A.guards = some []) (hr : Room (k + 4) A) (e0 : Env0 P w K mg base A outer s H) (hp : H p = some (.lst fs)) (C : ∀ f ∈ fs, ∃ a, f = .ref a ∧ Can P w K mg base k H T a (.err (ca n) d)) (ok : RefOk K ca n wd d) (tr : ∀ a ∈ T, H a ≠ none) (tb : LamX.Tabs (TbK K) H) (rv : Rp K (hid T H) v d) (ru : RelV v u) (hq : ∀ H', Gr K H H' → Q (.bl true) H') :
    codeAny (model P w) A (.call (.ref fr) ⟨[.ref p, .str wd t, u], []⟩) (CR (L2.CX P w) outer P w H s Q E) s := by
  obtain ⟨oc, od, kV, doc, pm, an, cdv, ct, osl, rfl, lk, hcd⟩ := (Fun.ofD Fr).ex
  refine LamX.run_ofS (N := N_l_all_refused) (ps := ["calls", "word", "value"]) (us := [.ref p, .str wd t, u]) (vs := [.ref p, .str wd, v]) lk hcd sc_l_all_refused (hr.mono (j := k + 3 + 1) (Nat.le_refl _)) e0 (.of_eq (by first | rfl | with_unfolding_all rfl)) (.cons rfl (.cons ⟨t, rfl⟩ (.cons ru .nil))) rfl fun hr2 => ?_
  have nd := sc_l_all_refused.nd
  have cn : Cn (fx P w K mg base N_l_all_refused "_law_all_refused" s_l_all_refused fr cdv A outer s H E) E (k + 3) := ⟨hgd, hr2, passes_call (W := fun cls d _ H => E cls d H) (takes_of rfl rfl rfl rfl) (fun _ _ _ _ h => h), takes_of rfl rfl rfl rfl, rfl⟩
  refine ⟨_, pss_one (ps_ret (pe_cmpR (op_eqD cn.rm.units) (pe_lc (own := [("call", 3)]) cn.cm nd (pi_list (pv 0)) (blkOk_by (by rfl)) (fun _ _ _ _ _ => pg_name nd (i := 3) rfl (by first | exact .inl rfl | exact .inr rfl))
    (fun _ _ _ _ _ => by refine pts_one (pt_not (pt_val (t := tRefd P w K mg base ca k n wd d 3 1 2) ?_)); refine pe_refused (k := k) ?_ ?_ ?_ ok ?_ ?_ ?_; exact R; exact cn.gd; exact cn.rm; exact pv 3; exact pv 1; exact pv 2) (fun _ _ _ _ _ => pv 3)) (pe_lst pa_nil) (nomark _))), ?_⟩
  refine ⟨.ref p, rfl, p, rfl, ⟨fs, .inl (.inl hp)⟩, fun D hD => ?_⟩
  have hDp : D ≠ p := fun z => by rw [z, hp] at hD; cases hD
  refine lc_list (xs := fs) (fun _ H' => Gr K H H' ∧ H' D = some (.lst [])) ⟨Ext.gr (Evl.Ex.new hD), upd_same⟩ (fun i H' _ h => .inl (.inl (h.1.kp p _ hp fun _ z => nomatch z))) (fun i x H' hx ⟨g, hd⟩ => ?_) fun H' ⟨g, hd⟩ => ?_
  · obtain ⟨a, rfl, Ca⟩ := C x (List.mem_of_getElem? hx)
    refine ⟨rfl, a, v, T, rfl, rfl, rfl, Ca.later g (fun _ z => z) (fun _ z => .inl z), rv.ext g.hid, fun a z w => tr a z (g.al a w), g.tb tb, fun H2 g2 => ?_⟩
    refine ⟨true, rfl, ?_⟩
    exact ⟨g.trans g2, g2.kp D _ hd fun _ z => nomatch z⟩
  · refine ⟨Nat.zero_le _, fun q hq2 => ?_⟩
    have hn : q ≠ D := fun z => by rw [z, hd] at hq2; cases hq2
    refine ⟨.list [], .list [], .lst (.inl (.inl (by rw [upd_ne (Ne.symm hn)]; exact hd))) .nil, .lst (.inl (.inl upd_same)) .nil, rfl, rfl, ?_⟩
    exact hq _ (g.trans (Ext.gr (Evl.Ex.new hq2)))
end

end K54
/-! E5: lambdas made and refused at once. -/
namespace K54
open PySem L2 PyProof.Rows DL
section
variable {P : Program} {w : World} {K : PySem.W.Frag} {mg : Str → Option Value} {base base2 : Heap}
theorem Df_over {x : Str} {st : Stmt} {k : Nat} {ps : List Str} {F : List Sl → RF} (h : Df P w K mg base x st k ps F) (M : Mod K mg base) (kp : ∀ b o, base.get? b = some o → base2.get? b = some o) (hz : base.objs.size ≤ base2.objs.size) : Df P w K mg base2 x st k ps F := by
  obtain ⟨f, fd, h1, h2, h3⟩ := h.ex
  exact ⟨f, fd, h1, ⟨fun A outer s H args us vs Q E hg hr e0 => h2.run A outer s H args us vs Q E hg hr (env0_less e0 M kp hz)⟩, h3⟩
end
section
variable {X : Cx} {pins : List (Addr × Obj)} {σ : L2.St} {H : Hp} {s : Shared} {ca : Str → Addr}
theorem RefKit.ground (R : RefKit X.prog X.w X.K X.mg X.base ca) (I : Inv X pins σ H s) : RefKit X.prog X.w X.K X.mg (DL.ground s H (frs X.stack)) ca :=
  ⟨R.B, R.X, Df_over R.alike I.mod (fun b o e => base_ground I e) (by
    show X.base.objs.size ≤ (PySem.W.hideAll _ _).objs.size
    rw [PySem.W.hideAll_size]
    exact Nat.le_trans I.ok.bsz I.sz), R.caught, R.refused⟩
/-- where lambdas are made -/
structure Maker (X : Cx) : Prop where
  ex : ∃ c Pt, LamX.TabB X.base X.mg c Pt ∧ X.env.code = .ref c ∧ (Pt, X.env.qual ++ "<lambda>") ∈ TbK X.K ∧ ∀ p ∈ TbK X.K, p.1 = Pt → p.2 = X.env.qual ++ "<lambda>"
  fn : ∀ x, X.fn x = true
/-- a lambda without arguments, its body known -/
structure LamB (X : Cx) (k : Nat) (fb : DL.Env → RE) (params : Arguments) (body : Expr) (scope : Scope) : Prop where
  L : LamX.LamS X.env.scope scope
  hdef : defaultsOf params X.env = ([], [])
  hbind : ∀ (cl : List (Str × Addr)) (pm cv ctv : Value), bindArgs (PySem.W.kla_fn "<lambda>" (X.env.qual ++ "<lambda>") params body scope cl pm cv ctv) ⟨[], []⟩ = pure []
  hbody : ∀ (A : Around) (outer : List PySem.Env) (s : Shared) (H : Hp) (E : XK) (f c' : Addr), Cn (LamX.lamCx X A outer s H E scope f c') E k → DE (LamX.lamCx X A outer s H E scope f c') E body fb
def LamV (X : Cx) (k : Nat) (fb : DL.Env → RE) (H : Hp) (o : Obj) : Prop := ∃ (params : Arguments) (body : Expr) (scope : Scope) (pm ctv : Value) (c' : Addr), o = PySem.W.kla_obj "<lambda>" (X.env.qual ++ "<lambda>") params body scope (cloFrom X.env.cells scope.names []) pm c' ctv ∧ LamB X k fb params body scope ∧ H c' = some (LamX.CodeO c' (X.env.qual ++ "<lambda>"))
theorem LamV.gr {k : Nat} {fb : DL.Env → RE} {H' : Hp} {o : Obj} (h : LamV X k fb H o) (g : Gr X.K H H') : LamV X k fb H' o := by
  obtain ⟨a, b, c, d, e, c', h1, h2, h3⟩ := h
  exact ⟨a, b, c, d, e, c', h1, h2, g.kp _ _ h3 LamX.codeO_ne⟩
theorem lam_push {params : Arguments} {body : Expr} {scope : Scope} {pos : Pos} {k : Nat} {fb : DL.Env → RE} {E : Value → Shared → Prop} {Q : Value → Shared → Prop} (Mk : Maker X) (B : LamB X k fb params body scope) (I : Inv X pins σ H s) (hT : LamX.Tabs (TbK X.K) H)
    (h : ∀ (f : Addr) (o : Obj) (H1 : Hp) (s' : Shared), Inv X ((f, o) :: pins) σ H1 s' → Gr X.K H H1 → f ∉ frs X.stack → LamV X k fb H1 o → Q (.ref f) s') :
    wpAny (model X.prog X.w) X.A (eval (.Lambda params body scope pos) X.env) Q E s := by
  obtain ⟨c, Pt, TB, hc, hm, hu⟩ := Mk.ex
  refine lam_make3 I TB hc hm hu hT B.hdef (B.L.has I.ok) fun f c' pm ctv H1 s' I1 g hf hfn hfr hfs hfl hco => ?_
  refine h f _ H1 s' (I1.pins_of fun p hp => ?_) g hfr ⟨params, body, scope, pm, ctv, c', rfl, B, hco⟩
  rcases List.mem_cons.mp hp with e | e
  · rw [e]
    exact ⟨hf, hfn, hfl, hfs, fun v z => nomatch z⟩
  · exact I1.pin p (List.mem_append_right _ e)
theorem can_of {τ : Nat → Addr} {A0 P : List Addr} {ρ : DL.Env} {f : Addr} {o : Obj} {k : Nat} {fb : DL.Env → RE} {r : FO} (Mk : Maker X) (I : Inv X pins σ H s) (S : SRep X.K τ A0 H σ ρ P) (hm : (f, o) ∈ pins) (hfr : f ∉ frs X.stack) (hv : LamV X k fb H o) (ho : foOf (fb (pubE ρ)) = some r) :
    Can X.prog X.w X.K X.mg (DL.ground s H (frs X.stack)) (k + 1) H (P ++ A0) f r := by
  obtain ⟨params, body, scope, pm, ctv, c', rfl, B, hco⟩ := hv
  obtain ⟨h1, h2, _⟩ := I.pin _ (List.mem_append_right _ hm)
  exact lam_can (I.pins_of (pins' := []) fun p hp => absurd hp (by simp)) Mk.fn S B.L h1 h2 hfr hco (B.hbind _ _ _ _) B.hbody ho
end
section
variable {X : Cx} {ca : Str → Addr} {E : XK}
open Classical in
/-- _law_refused(lambda: .., wd, x) -/
noncomputable def fRefd (K : PySem.W.Frag) (ca : Str → Addr) (n wd : Str) (fb : DL.Env → RE) (i : Nat) : DL.Env → RE := fun ρ => match ρ[i]? with
  | some (some (.pub m d)) => if fb (pubE ρ) = .err (ca n) d ∧ RefOk K ca n wd d then .ok (.pu (.bool true)) ρ else .st
  | _ => .st
theorem de_refLam {n wd : Str} {k i : Nat} {fb : DL.Env → RE} {params : Arguments} {body : Expr} {scope : Scope} {y : Str} {kd : Nat} {p p1 p2 p3 pos : Pos} (Mk : Maker X) (c : Cn X E (k + 4)) (R : RefKit X.prog X.w X.K X.mg X.base ca) (B : LamB X k fb params body scope) (hv : PE X (.Name y p3) (tVar i)) (hg : Gl X "_law_refused" := by rfl)
    (he : starEach [.Lambda params body scope p1, .Constant (.str wd) kd p2, .Name y p3] X.env = (false, eval (.Lambda params body scope p1) X.env) :: starEach [.Constant (.str wd) kd p2, .Name y p3] X.env := by rfl) (he2 : starEach [.Constant (.str wd) kd p2, .Name y p3] X.env = (false, eval (.Constant (.str wd) kd p2) X.env) :: starEach [.Name y p3] X.env := by rfl)
    (he3 : starEach [.Name y p3] X.env = (false, eval (.Name y p3) X.env) :: starEach [] X.env := by rfl) (hpl : (backTo pos (starEach [.Constant (.str wd) kd p2, .Name y p3] X.env)).any (·.1) = false := by rfl) :
    DE X E (.Call (.Name "_law_refused" p) [.Lambda params body scope p1, .Constant (.str wd) kd p2, .Name y p3] [] pos) (fRefd X.K ca n wd fb i) := by
  obtain ⟨fc, fdc, Fc, hmc⟩ := R.caught
  obtain ⟨fr, fdr, Fr, hmr⟩ := R.refused
  refine ⟨⟨fun pins s σ H Q I ⟨τ, A0, P, ρ, S, cc⟩ => ?_⟩⟩
  unfold fRefd at cc
  split at cc
  next m d q =>
    split at cc
    next hh =>
      obtain ⟨hfb, ok⟩ := hh
      obtain ⟨v, hσ, rv⟩ := S.puD q
      refine wpAny_Call_Name_kw (ld_glob I hg hmr ?_ (by decide))
      refine PySem.W.callWith_K (h₀ := X.base) I.ok.mod.kin Fr.kp ?_ he hpl
      rw [he]
      show wpAny _ _ (spliced ((false, eval (.Lambda params body scope p1) X.env) :: backTo pos (starEach [.Constant (.str wd) kd p2, .Name y p3] X.env))) _ _ s
      refine Calls.spliced_cons (lam_push Mk B I S.tb fun f o H1 s1 I1 g hfr lv => ?_)
      refine thn ((pa_cons pe_str (pa_cons hv pa_nil he3) he2).run pos ((f, o) :: pins) s1 σ H1 (fun vs H2 => vs = [.str wd, v] ∧ H2 = H1) I1 ⟨v, hσ, rfl, rfl⟩) fun us s2 ⟨vs, H2, I2, r, e1, e2⟩ => ⟨I2.kIn, ?_⟩
      subst e1
      rw [e2] at I2
      have S1 := S.grow g
      have C := can_of Mk I2 S1 List.mem_cons_self hfr lv (r := .err (ca n) d) (by rw [hfb]; rfl)
      have I3 : Inv X pins σ H1 s2 := I2.pins_of fun p hp => I2.pin p (List.mem_append_right _ (List.mem_cons_of_mem _ hp))
      have R2 := R.ground I2
      cases r with
      | cons r2 r =>
        cases r with
        | cons r3 r =>
          cases r
          obtain ⟨t, rfl⟩ := r2
          refine wpAny_call (codeAny_mono (refused_run (Q := Q) (E := L2.E0) R2.B R2.X R2.alike Fc hmc Fr c.gd c.rm (env0_ground I2) C ok S1.tr S1.tb (rv.ext g.hid) r3 fun H' g2 => cc (.bl true) H' P (Stp.gr (g.trans g2)) (S.grow (g.trans g2)) (.bl true)) fun r s' hq => ?_)
          cases r with
          | error e => exact (passL (X := X) pins σ H1 s2 e s' I3 hq)
          | ok fl =>
            cases fl with
            | ret u => exact I3.after hq
            | next => exact False.elim hq
            | brk => exact False.elim hq
            | cont => exact False.elim hq
    next => exact cc.elim
  next => exact cc.elim
end

end K54
/-! E6: a list of lambdas, all refused. -/
namespace K54
open PySem L2 PyProof.Rows DL
section
variable {X : Cx}
inductive LamEs (X : Cx) (k : Nat) : List Expr → List (DL.Env → RE) → Prop
  | nil : LamEs X k [] []
  | cons {params : Arguments} {body : Expr} {scope : Scope} {pos : Pos} {fb : DL.Env → RE} {es : List Expr} {fbs : List (DL.Env → RE)} : LamB X k fb params body scope → starEach (.Lambda params body scope pos :: es) X.env = (false, eval (.Lambda params body scope pos) X.env) :: starEach es X.env → LamEs X k es fbs → LamEs X k (.Lambda params body scope pos :: es) (fb :: fbs)
inductive LamFs (X : Cx) (k : Nat) (pins : List (Addr × Obj)) (H : Hp) : List V → List (DL.Env → RE) → Prop
  | nil : LamFs X k pins H [] []
  | cons {f : Addr} {o : Obj} {fs : List V} {fb : DL.Env → RE} {fbs : List (DL.Env → RE)} : (f, o) ∈ pins → f ∉ frs X.stack → LamV X k fb H o → LamFs X k pins H fs fbs → LamFs X k pins H (.ref f :: fs) (fb :: fbs)
theorem LamFs.more {k : Nat} {pins pins' : List (Addr × Obj)} {H H' : Hp} (g : Gr X.K H H') (h : ∀ p ∈ pins, p ∈ pins') : ∀ {fs : List V} {fbs : List (DL.Env → RE)}, LamFs X k pins H fs fbs → LamFs X k pins' H' fs fbs
  | _, _, .nil => .nil
  | _, _, .cons a b c d => .cons (h _ a) b (c.gr g) (d.more g h)
theorem lams_run {k : Nat} {σ : L2.St} (Mk : Maker X) (pos : Pos) {E : Value → Shared → Prop} : ∀ {es : List Expr} {fbs : List (DL.Env → RE)} {pins : List (Addr × Obj)} {H : Hp} {s : Shared} {Q : List Value → Shared → Prop}, LamEs X k es fbs → Inv X pins σ H s → LamX.Tabs (TbK X.K) H →
    (∀ (fs : List V) (us : List Value) (pins' : List (Addr × Obj)) (H1 : Hp) (s1 : Shared), Inv X pins' σ H1 s1 → (∀ p ∈ pins, p ∈ pins') → Gr X.K H H1 → LamFs X k pins' H1 fs fbs → fs.length = fbs.length → Vals fs us → Q us s1) →
    wpAny (model X.prog X.w) X.A (spliced (backTo pos (starEach es X.env))) Q E s
  | _, _, pins, H, s, Q, .nil, I, hT, h => Calls.spliced_nil (h [] [] pins H s I (fun _ z => z) (Ext.gr (Ext.rfl H)) .nil rfl .nil)
  | _, _, pins, H, s, Q, .cons (params := params) (body := body) (scope := scope) (pos := lp) (es := es) B he r, I, hT, h => by
    rw [he]
    show wpAny _ _ (spliced ((false, eval (.Lambda params body scope lp) X.env) :: backTo pos (starEach es X.env))) _ _ s
    refine Calls.spliced_cons (lam_push Mk B I hT fun f o H1 s1 I1 g hfr lv => ?_)
    refine lams_run Mk pos r I1 (g.tb hT) fun fs us pins' H2 s2 I2 hp g2 lf hl hv => ?_
    exact h (.ref f :: fs) (.ref f :: us) pins' H2 s2 I2 (fun p z => hp p (List.mem_cons_of_mem _ z)) (g.trans g2) (.cons (hp _ List.mem_cons_self) hfr (lv.gr g2) lf) (by simp [hl]) (.cons rfl hv)
end
section
variable {X : Cx} {ca : Str → Addr} {E : XK}
open Classical in
/-- _law_all_refused([lambda: .., ..], wd, x) -/
noncomputable def fAllRefd (K : PySem.W.Frag) (ca : Str → Addr) (n wd : Str) (fbs : List (DL.Env → RE)) (i : Nat) : DL.Env → RE := fun ρ => match ρ[i]? with
  | some (some (.pub m d)) => if (∀ fb ∈ fbs, fb (pubE ρ) = .err (ca n) d) ∧ RefOk K ca n wd d ∧ fbs.length ≤ sizeLine then .ok (.pu (.bool true)) ρ else .st
  | _ => .st
theorem LamFs.cans {pins : List (Addr × Obj)} {σ : L2.St} {H : Hp} {s : Shared} {τ : Nat → Addr} {A0 P : List Addr} {ρ : DL.Env} {k : Nat} {r : FO} (Mk : Maker X) (I : Inv X pins σ H s) (S : SRep X.K τ A0 H σ ρ P) : ∀ {fs : List V} {fbs : List (DL.Env → RE)}, LamFs X k pins H fs fbs → (∀ fb ∈ fbs, foOf (fb (pubE ρ)) = some r) →
    ∀ f ∈ fs, ∃ a, f = V.ref a ∧ Can X.prog X.w X.K X.mg (DL.ground s H (frs X.stack)) (k + 1) H (P ++ A0) a r
  | _, _, .nil, _, f, hf => absurd hf (by simp)
  | _, _, .cons a b c d, h, f, hf => by
    rcases List.mem_cons.mp hf with e | e
    · exact ⟨_, e, can_of Mk I S a b c (h _ List.mem_cons_self)⟩
    · exact LamFs.cans Mk I S d (fun fb z => h fb (List.mem_cons_of_mem _ z)) f e
theorem de_allLam {n wd : Str} {k i : Nat} {es : List Expr} {fbs : List (DL.Env → RE)} {y : Str} {kd : Nat} {p p1 p2 p3 pos : Pos} (Mk : Maker X) (c : Cn X E (k + 5)) (R : RefKit X.prog X.w X.K X.mg X.base ca) (hfa : ∃ fa fda, FunD X.K "_law_all_refused" "_law_all_refused" (defArgs s_l_all_refused) (defBody s_l_all_refused) (defScope s_l_all_refused) [] [] fa fda ∧ X.mg "_law_all_refused" = some (.ref fa))
    (B : LamEs X k es fbs) (hv : PE X (.Name y p3) (tVar i)) (hg : Gl X "_law_all_refused" := by rfl)
    (he : starEach [.List es p1, .Constant (.str wd) kd p2, .Name y p3] X.env = (false, eval (.List es p1) X.env) :: starEach [.Constant (.str wd) kd p2, .Name y p3] X.env := by rfl) (he2 : starEach [.Constant (.str wd) kd p2, .Name y p3] X.env = (false, eval (.Constant (.str wd) kd p2) X.env) :: starEach [.Name y p3] X.env := by rfl)
    (he3 : starEach [.Name y p3] X.env = (false, eval (.Name y p3) X.env) :: starEach [] X.env := by rfl) (hpl : (backTo pos (starEach [.Constant (.str wd) kd p2, .Name y p3] X.env)).any (·.1) = false := by rfl) :
    DE X E (.Call (.Name "_law_all_refused" p) [.List es p1, .Constant (.str wd) kd p2, .Name y p3] [] pos) (fAllRefd X.K ca n wd fbs i) := by
  obtain ⟨fa, fda, Fa, hma⟩ := hfa
  refine ⟨⟨fun pins s σ H Q I ⟨τ, A0, P, ρ, S, cc⟩ => ?_⟩⟩
  unfold fAllRefd at cc
  split at cc
  next m d q =>
    split at cc
    next hh =>
      obtain ⟨hfb, ok, hz⟩ := hh
      obtain ⟨v, hσ, rv⟩ := S.puD q
      refine wpAny_Call_Name_kw (ld_glob I hg hma ?_ (by decide))
      refine PySem.W.callWith_K (h₀ := X.base) I.ok.mod.kin Fa.kp ?_ he hpl
      rw [he]
      show wpAny _ _ (spliced ((false, eval (.List es p1) X.env) :: backTo pos (starEach [.Constant (.str wd) kd p2, .Name y p3] X.env))) _ _ s
      refine Calls.spliced_cons (wpAny_List_spliced (lams_run Mk p1 B I S.tb fun fs us pins' H1 s1 I1 hp g lf hl hvs => ⟨by rw [← hvs.length, hl]; exact hz, ?_⟩))
      have hf : H1 s1.heap.objs.size = none := I1.hok.fresh (Nat.le_refl _)
      have I1' : Inv X pins' σ (upd H1 s1.heap.objs.size (.lst fs)) { s1 with heap := s1.heap.push { cls := .type "list", data := .seq us.toArray } } := I1.laid (t' := s1.toks) (fun b u e => Heap.get?_push_of_some _ e) (Nat.le_refl _) ⟨by rw [hl]; exact hz, us, 0, hvs, Heap.get?_push_size _ rfl⟩
      have g1 : Gr X.K H1 (upd H1 s1.heap.objs.size (.lst fs)) := Ext.gr (Evl.Ex.new hf)
      have hpl1 : (upd H1 s1.heap.objs.size (.lst fs)) s1.heap.objs.size = some (.lst fs) := upd_same
      generalize upd H1 s1.heap.objs.size (.lst fs) = H3 at I1' g1 hpl1
      generalize s1.heap.objs.size = pl at I1' hpl1 hf ⊢
      generalize ({ s1 with heap := s1.heap.push { cls := .type "list", data := .seq us.toArray } } : Shared) = s3 at I1' ⊢
      refine thn ((pa_cons pe_str (pa_cons hv pa_nil he3) he2).run pos pins' s3 σ H3 (fun vs H2 => vs = [.str wd, v] ∧ H2 = H3) I1' ⟨v, hσ, rfl, rfl⟩) fun us2 s2 ⟨vs, H2, I2, r, e1, e2⟩ => ⟨I2.kIn, ?_⟩
      subst e1
      rw [e2] at I2
      have g3 := g.trans g1
      have S1 := S.grow g3
      have C := LamFs.cans (r := .err (ca n) d) Mk I2 S1 (lf.more g1 fun _ z => z) fun fb z => by rw [hfb fb z]; rfl
      have I3 : Inv X pins σ H3 s2 := I2.pins_of fun p z => I2.pin p (List.mem_append_right _ (hp p z))
      have R2 := R.ground I2
      cases r with
      | cons r2 r =>
        cases r with
        | cons r3 r =>
          cases r
          obtain ⟨t, rfl⟩ := r2
          refine wpAny_call (codeAny_mono (all_refused_run (Q := Q) (E := L2.E0) R2 Fa c.gd c.rm (env0_ground I2) hpl1 C ok S1.tr S1.tb (rv.ext g3.hid) r3 fun H' g2 => cc (.bl true) H' P (Stp.gr (g3.trans g2)) (S.grow (g3.trans g2)) (.bl true)) fun r s' hq => ?_)
          cases r with
          | error e => exact (passL (X := X) pins σ H3 s2 e s' I3 hq)
          | ok fl =>
            cases fl with
            | ret u => exact I3.after hq
            | next => exact False.elim hq
            | brk => exact False.elim hq
            | cont => exact False.elim hq
    next => exact cc.elim
  next => exact cc.elim
end

end K54
/-! E7: _law_same. -/
namespace K54
open PySem L2 PyProof.Rows DL
abbrev s_l_same : Stmt := top 40
abbrev N_l_same : List Str := ["told", "due", "at"]
theorem sc_l_same : FnScope N_l_same ["told", "due"] (defScope s_l_same) := ⟨rfl, rfl, rfl, by decide +kernel, rfl, by decide +kernel, by decide +kernel⟩
def g_l_same (Fs : List Sl → RF) : DL.Env → RS := sSeq (sIf (fOr (fOp2 gIsN (fVar 1) (fC .none)) (fOr (fOp2 gIsN (fVar 1) (fC (.bool true))) (fOp2 gIsN (fVar 1) (fC (.bool false))))) (sRet (fIf (fOp2 gIsN (fVar 1) (fC .none)) (fOp2 gIsN (fVar 0) (fC .none)) (fIf (fOp2 gIsN (fVar 1) (fC (.bool true))) (fOp2 gIsN (fVar 0) (fC (.bool true))) (fOp2 gIsN (fVar 0) (fC (.bool false)))))) (.nx)) (sSeq (sIf (fOp1 (gIsi2 "list" "tuple") (fVar 1)) (sSeq (sIf (fOr (fAnd (fNot (fOp1 (gIsi "list") (fVar 0))) (fOp1 (gIsi "list") (fVar 1))) (fAnd (fNot (fOp1 (gIsi "tuple") (fVar 0))) (fOp1 (gIsi "tuple") (fVar 1)))) (sRet (fC (.bool false))) (.nx)) (sRet (fAnd (fOp2 gEq (bndA (fCons (fVar 0) (fNil)) gLen) (bndA (fCons (fVar 1) (fNil)) gLen)) (fOp2 gEq (fLc (srcA (fCons (bndA (fCons (fVar 1) (fNil)) gLen) (fNil)) kRng1) (bName 2) (fNot (fCall 2 Fs (fCons (fOp2 gIx (fVar 0) (fVar 2)) (fCons (fOp2 gIx (fVar 1) (fVar 2)) (fNil))))) (fVar 2) [2]) (bndA (fNil) gMkL))))) (.nx)) (sSeq (sIf (fOp1 (gIsi "int") (fVar 1)) (sRet (fAnd (fOp1 (gIsi "int") (fVar 0)) (fAnd (fNot (fOp1 (gIsi "bool") (fVar 0))) (fOp2 gEq (fVar 0) (fVar 1))))) (.nx)) (sRet (fAnd (fOp1 (gIsi "str") (fVar 0)) (fOp2 gEq (fVar 0) (fVar 1))))))
def F_l_same : Nat → List Sl → RF
  | 0 => fun _ => .st
  | n + 1 => fnF 3 (g_l_same (F_l_same n))
theorem b_l_same {P : Program} {w : World} {K : PySem.W.Frag} {mg : Str → Option Value} {base : Heap} {k : Nat} {Fs : List Sl → RF} (B : Bl mg) (d_l_same : Df P w K mg base "_law_same" s_l_same k ["told", "due"] Fs) {f : Addr} {cdv : Value} {A : Around} {outer : List PySem.Env} {s : Shared} {H : Hp} {E : XK} (c : Cn (fx P w K mg base N_l_same "_law_same" s_l_same f cdv A outer s H E) E k) :
    DSs (fx P w K mg base N_l_same "_law_same" s_l_same f cdv A outer s H E) E (defBody s_l_same) (g_l_same Fs) := by
  have nd := sc_l_same.nd
  exact dss_cons (ds_if (dt_w (dw_or (t_is (de_var (pv 1)) (de_non)) (dw_or (t_is (de_var (pv 1)) (de_bl)) (dw_or1 (t_is (de_var (pv 1)) (de_bl)))))) (dss_one (ds_ret (de_if (t_is (de_var (pv 1)) (de_non)) (d_is (de_var (pv 0)) (de_non)) (de_if (t_is (de_var (pv 1)) (de_bl)) (d_is (de_var (pv 0)) (de_bl)) (d_is (de_var (pv 0)) (de_bl)))))) (dss_nil))
    (dss_cons (ds_if (dt_val (d_isi2 B "list" "tuple" "list" "tuple" rfl rfl B.list bt_list B.tuple bt_tuple (de_var (pv 1)))) (dss_cons (ds_if (dt_w (dw_or (dt_w (dw_and (dt_not (dt_val (d_isi B "list" "list" rfl B.list bt_list (de_var (pv 0))))) (dw_and1 (dt_val (d_isi B "list" "list" rfl B.list bt_list (de_var (pv 1))))))) (dw_or1 (dt_w (dw_and (dt_not (dt_val (d_isi B "tuple" "tuple" rfl B.tuple bt_tuple (de_var (pv 0))))) (dw_and1 (dt_val (d_isi B "tuple" "tuple" rfl B.tuple bt_tuple (de_var (pv 1)))))))))) (dss_one (ds_ret (de_bl))) (dss_nil))
    (dss_one (ds_ret (de_and (d_eq c.rm.units (d_len B (da_cons (de_var (pv 0)) (da_nil))) (d_len B (da_cons (de_var (pv 1)) (da_nil)))) (de_one (d_eq c.rm.units (de_lc (own := [("at", 2)]) c.cm nd (di_rng1 rfl B.range (da_cons (d_len B (da_cons (de_var (pv 1)) (da_nil))) (da_nil))) (blkOk_by (by rfl)) (gt_name) (by decide) (fun _ _ _ _ _ => pg_name nd (i := 2) rfl (by first | exact .inl rfl | exact .inr rfl)) (fun _ _ _ _ _ => dts_one (dt_not (dt_val (de_call (hk := Nat.le_refl _) d_l_same c.blk (da_cons (d_ix (de_var (pv 0)) (de_var (pv 2))) (da_cons (d_ix (de_var (pv 1)) (de_var (pv 2))) (da_nil))))))) (fun _ _ _ _ _ => de_var (pv 2))) (de_mkL (da_nil)))))))) (dss_nil))
    (dss_cons (ds_if (dt_val (d_isi B "int" "int" rfl B.int bt_int (de_var (pv 1)))) (dss_one (ds_ret (de_and (d_isi B "int" "int" rfl B.int bt_int (de_var (pv 0))) (de_and (de_not (d_isi B "bool" "bool" rfl B.bool bt_bool (de_var (pv 0)))) (de_one (d_eq c.rm.units (de_var (pv 0)) (de_var (pv 1)))))))) (dss_nil))
    (dss_one (ds_ret (de_and (d_isi B "str" "str" rfl B.str bt_str (de_var (pv 0))) (de_one (d_eq c.rm.units (de_var (pv 0)) (de_var (pv 1)))))))))
theorem df_l_same {P : Program} {w : World} {K : PySem.W.Frag} {mg : Str → Option Value} {base : Heap} (B : Bl mg) {f : Addr} {fd : FuncData} (F : FunD K "_law_same" "_law_same" (defArgs s_l_same) (defBody s_l_same) (defScope s_l_same) [] [] f fd) (hm : mg "_law_same" = some (.ref f)) : ∀ n, Df P w K mg base "_law_same" s_l_same n ["told", "due"] (F_l_same n)
  | 0 => by
    refine ⟨f, fd, hm, ⟨fun A outer s H args us vs Q E hg hr e0 hb r hl h => ?_⟩, F.kp, ?_, ?_⟩
    · obtain ⟨τ, A0, P0, as, S, c⟩ := h
      exact (show False from c).elim
    · obtain ⟨oc, od, kV, doc, pm, an, cdv, ct, osl, rfl, lk, hcd⟩ := (Fun.ofD F).ex
      exact fun us hl => match us, hl with | [_, _], _ => rfl
    · obtain ⟨oc, od, kV, doc, pm, an, cdv, ct, osl, rfl, lk, hcd⟩ := (Fun.ofD F).ex
      exact ⟨kV, doc, pm, an, cdv, ct, rfl⟩
  | n + 1 => Df.mk' F hm sc_l_same rfl (fun _ _ _ _ _ _ us hl => match us, hl with | [_, _], _ => rfl) fun cdv A outer s H E c => b_l_same B (df_l_same B F hm n) c

end K54
/-! M8: pick, grid, drawn swap; same; texts; refusals. -/
namespace DL
open PySem L2 PyProof.Rows
/-- a lent call whose arguments change the slots, too -/
theorem EvS.lendS {n i t : Nat} {F : List Sl → RF} {fs : Env → RL} {ρ ρ1 : Env} {ds es ds2 : List D} {d : D} {t0 : Nat} {ds0 : List D} (h0 : ρ[i]? = some (some (.own t0 ds0))) (hs : EvLS fs ρ ρ1 es) (h : ρ1[i]? = some (some (.own t ds))) (hn : es.length + 1 = n) (hF : FrO F ds es ds2 d) : EvS (fLend n i F fs) ρ (ρ1.set i (some (.own t ds2))) d := by
  obtain ⟨w, hw, e⟩ := hF
  refine ⟨w, ?_, e⟩
  unfold fLend
  rw [h0]
  dsimp only
  rw [show fs ρ = _ from hs]
  dsimp only
  rw [h]
  dsimp only
  rw [if_pos hn, hw]
  rfl
/-! ### small data -/
structure Sm (k W : Nat) (d : D) : Prop where
  lay : d.canLay0 = true
  sh : d.showable = true
  shrt : d.intsShort 13 = true
  dep : d.depth ≤ k
  wt : d.weight ≤ W
structure Sms (k W : Nat) (ds : List D) : Prop where
  lay : PyData.canLayAll0 ds = true
  sh : PyData.showableAll ds = true
  shrt : PyData.intsShortAll 13 ds = true
  dep : PyData.depthAll ds ≤ k
  wt : PyData.weightAll ds ≤ W
theorem Sm.int {n : Int} (h0 : 0 ≤ n) (h1 : n < 1048576) : Sm 0 20 (.int n) := by
  have lg : n.natAbs.log2 < 20 := by
    by_cases e : n.natAbs = 0
    · rw [e]; decide
    · exact (Nat.log2_lt e).mpr (by omega)
  refine ⟨rfl, ?_, ?_, Nat.le_refl _, ?_⟩
  · exact decide_eq_true (by omega)
  · refine decide_eq_true ?_
    have := toString_length_le (v := n) h0 (k := 10) (by decide) (by omega)
    simp only [PyData.shown]
    exact Nat.le_trans this (by decide)
  · simp only [PyData.weight]
    split
    · exact Nat.zero_le _
    · omega
theorem Sms.nil {k : Nat} : Sms k 0 [] := ⟨rfl, rfl, rfl, by simp [PyData.depthAll], by simp [PyData.weightAll]⟩
theorem Sms.cons {k a b : Nat} {d : D} {ds : List D} (h : Sm k a d) (hs : Sms k b ds) : Sms k (a + 1 + b) (d :: ds) := by
  have := h.dep
  have := h.wt
  have := hs.dep
  have := hs.wt
  refine ⟨?_, ?_, ?_, ?_, ?_⟩
  · simp only [PyData.canLayAll0, h.lay, hs.lay, Bool.and_self]
  · simp only [PyData.showableAll, h.sh, hs.sh, Bool.and_self]
  · simp only [PyData.intsShortAll, h.shrt, hs.shrt, Bool.and_self]
  · simp only [PyData.depthAll]; omega
  · simp only [PyData.weightAll]; omega
theorem Sms.map {α : Type} {k a : Nat} {φ : α → D} : ∀ {xs : List α}, (∀ x ∈ xs, Sm k a (φ x)) → Sms k ((a + 1) * xs.length) (xs.map φ)
  | [], _ => by simpa using Sms.nil
  | x :: xs, h => by
    have z := Sms.cons (h x List.mem_cons_self) (Sms.map (xs := xs) fun y hy => h y (List.mem_cons_of_mem _ hy))
    rw [List.map_cons, List.length_cons, Nat.mul_add, Nat.mul_one, Nat.add_comm]
    exact z
theorem Sm.list {k W : Nat} {ds : List D} (h : Sms k W ds) : Sm (k + 1) W (.list ds) := by
  have := h.dep
  exact ⟨by simp only [PyData.canLay0, h.lay], by simp only [PyData.showable, h.sh], by simp only [PyData.intsShort, h.shrt], by simp only [PyData.depth]; omega, by simp only [PyData.weight]; exact h.wt⟩
theorem Sm.tuple {k W : Nat} {ds : List D} (h : Sms k W ds) : Sm (k + 1) W (.tuple ds) := by
  have := h.dep
  exact ⟨by simp only [PyData.canLay0, h.lay], by simp only [PyData.showable, h.sh], by simp only [PyData.intsShort, h.shrt], by simp only [PyData.depth]; omega, by simp only [PyData.weight]; exact h.wt⟩
theorem Sm.mono {k k2 W W2 : Nat} {d : D} (h : Sm k W d) (h1 : k ≤ k2) (h2 : W ≤ W2) : Sm k2 W2 d := ⟨h.lay, h.sh, h.shrt, Nat.le_trans h.dep h1, Nat.le_trans h.wt h2⟩
/-- a text of it is told -/
def Rpr (d : D) : Prop := ∃ s, gRepr [d] = some (.pu (.str s))
theorem Sm.rpr {k W : Nat} {d : D} (h : Sm k W d) (hk : k ≤ 60) (hW : W ≤ 1048576) : Rpr d := by
  have e : (2 : Nat) ^ 20 = 1048576 := by decide
  have l : PyData.layable0 d = true := by
    unfold PyData.layable0
    have h1 := h.dep
    have h2 := h.wt
    rw [h.lay, decide_eq_true (show d.depth ≤ 64 by omega), decide_eq_true (show d.weight ≤ 2 ^ 20 by omega)]; rfl
  have z := PyProof.Rows.shown_le13 l h.shrt
  have sl : 15728653 ≤ sizeLine := by decide
  have hd := h.dep
  have ok : (d.canLay0 && d.showable && decide (d.shown.length ≤ sizeLine) && decide (d.depth ≤ 60)) = true := by
    rw [h.lay, h.sh, decide_eq_true (show d.shown.length ≤ sizeLine by omega), decide_eq_true (show d.depth ≤ 60 by omega)]; rfl
  refine ⟨d.shown, ?_⟩
  unfold gRepr
  split
  · rename_i q
    cases q
    cases h.lay
  · rename_i q
    cases q
    rw [if_pos ok]
  · rename_i q1 q2
    exact absurd rfl (q2 d)
theorem Rpr.of {d : D} (h : (gRepr [d]).isSome = true) : Rpr d := by
  unfold gRepr at h
  split at h
  · rename_i q
    cases q
    exact ⟨_, rfl⟩
  · rename_i d2 q1 q
    cases q
    split at h
    · rename_i ok
      refine ⟨d.shown, ?_⟩
      unfold gRepr
      split
      · rename_i q
        cases q
        exact absurd rfl q1
      · rename_i q
        cases q
        rw [if_pos ok]
      · rename_i q2
        exact absurd rfl (q2 d)
    · cases h
  · cases h
end DL
namespace K54
open PySem L2 PyProof.Rows DL GM
/-! ### pick, grid, drawn swap -/
theorem pick_ok {ds : List D} {m : Nat} (G : Gen m ds) (hm : m < 2 ^ 50) : ∃ (z : Nat) (ds2 : List D), FrO F_l_pick ds [.list [.int 1, .int 2, .int 4]] ds2 (.int (z : Nat)) ∧ 1 ≤ z ∧ z ≤ 4 ∧ Gen (m + 1) ds2 := by
  obtain ⟨r, ds2, h1, h2, h3⟩ := random_ok (b := 3) G hm (by decide) (by decide)
  have e : ∃ z : Nat, gIx (.list [.int 1, .int 2, .int 4]) (.int (r : Nat)) = some (.pu (.int (z : Nat))) ∧ 1 ≤ z ∧ z ≤ 4 := by
    have hr : r < 3 := by omega
    match r, hr with
    | 0, _ => exact ⟨1, rfl, by decide, by decide⟩
    | 1, _ => exact ⟨2, rfl, by decide, by decide⟩
    | 2, _ => exact ⟨4, rfl, by decide, by decide⟩
    | n + 3, h => exact absurd h (by omega)
  obtain ⟨z, e1, e2, e3⟩ := e
  refine ⟨z, ds2, ?_, e2, e3, h3⟩
  have q : EvS (fOp2 gIx (fVar 1) (fLend 2 0 F_l_random (fCons (bndA (fCons (fVar 1) (fNil)) gLen) (fNil)))) [some (.own 1 ds), some (.pu (.list [.int 1, .int 2, .int 4]))] [some (.own 1 ds2), some (.pu (.list [.int 1, .int 2, .int 4]))] (.int (z : Nat)) :=
    EvS.op2 (w := .pu (.int (z : Nat))) (Ev.s (.var rfl)) (EvS.lend (t := 1) (ds := ds) (es := [.int 3]) rfl (.cons (Ev.bndA (w := .pu (.int 3)) (.cons (.var rfl) .nil) rfl) .nil) rfl h1) e1
  obtain ⟨w, q1, q2⟩ := ret_s q
  exact frO_of (ρ' := [some (.own 1 ds2), some (.pu (.list [.int 1, .int 2, .int 4]))]) q1 q2 rfl
theorem ints_of {M : Nat} : ∀ {ds : List D}, (∀ d ∈ ds, ∃ n : Nat, d = .int (n : Nat) ∧ n ≤ M) → ∃ r : List Int, ds = r.map .int ∧ ∀ x ∈ r, 0 ≤ x ∧ x ≤ (M : Nat)
  | [], _ => ⟨[], rfl, fun x hx => absurd hx (by simp)⟩
  | d :: ds, h => by
    obtain ⟨n, rfl, hn⟩ := h d List.mem_cons_self
    obtain ⟨r, rfl, hr⟩ := ints_of (ds := ds) fun x hx => h x (List.mem_cons_of_mem _ hx)
    refine ⟨(n : Nat) :: r, rfl, fun x hx => ?_⟩
    rcases List.mem_cons.mp hx with e | e
    · rw [e]; omega
    · exact hr x e
theorem rows_of {P : List Int → Prop} : ∀ {ds : List D}, (∀ d ∈ ds, ∃ r, d = rowD r ∧ P r) → ∃ g : Grid, ds = g.map rowD ∧ ∀ r ∈ g, P r
  | [], _ => ⟨[], rfl, fun x hx => absurd hx (by simp)⟩
  | d :: ds, h => by
    obtain ⟨r, rfl, hr⟩ := h d List.mem_cons_self
    obtain ⟨g, rfl, hg⟩ := rows_of (ds := ds) fun x hx => h x (List.mem_cons_of_mem _ hx)
    refine ⟨r :: g, rfl, fun x hx => ?_⟩
    rcases List.mem_cons.mp hx with e | e
    · rw [e]; exact hr
    · exact hg x e
abbrev gEnv (ds : List D) (R C M : Nat) (x : Option Sl) : DL.Env := [some (.own 1 ds), some (.pu (.int (R : Nat))), some (.pu (.int (C : Nat))), some (.pu (.int (M : Nat))), none, x]
theorem row_ok {ds : List D} {m R C M : Nat} (G : Gen m ds) (hm : m + C < 2 ^ 50) (hC : C ≤ 6) (hM : M ≤ 900) (x : Option Sl) : ∃ (r : List Int) (ds2 : List D), EvS (fLc (srcA (fCons (fVar 2) (fNil)) kRng1) (bName 4) (fC (.bool true)) (fLend 2 0 F_l_random (fCons (fOp2 gAdd (fVar 3) (fC (.int 1))) (fNil))) [4]) (gEnv ds R C M x) (gEnv ds2 R C M x) (rowD r) ∧ (r.length = C ∧ ∀ y ∈ r, 0 ≤ y ∧ y ≤ (M : Nat)) ∧ Gen (m + C) ds2 := by
  obtain ⟨es, ρ', h1, h2, h3, ds2, h4, rfl⟩ := evs_lc (src := srcA (fCons (fVar 2) (fNil)) kRng1) (bind := bName 4) (fe := fLend 2 0 F_l_random (fCons (fOp2 gAdd (fVar 3) (fC (.int 1))) (fNil))) (vs := [4]) (ρ := gEnv ds R C M x) (fun i : Nat => .int (i : Nat)) 1 (m + C) (fun k ρ => ∃ ds, Gen k ds ∧ ρ = gEnv ds R C M x) (fun d => ∃ n : Nat, d = .int (n : Nat) ∧ n ≤ M) (List.range C) m
    (srcA_ok (.cons (.var rfl) .nil) (rng1 (Nat.lt_of_le_of_lt hC (by decide)))) rfl (by rw [List.length_range]; exact Nat.le_trans hC (by decide)) (by rw [List.length_range]; omega) ⟨ds, G, rfl⟩ fun j hj k ρ hI hk => by
      obtain ⟨ds, G, rfl⟩ := hI
      obtain ⟨r, ds2, f1, f2, f3⟩ := random_ok (b := (M : Int) + 1) G (by omega) (by omega) (by omega)
      exact ⟨_, _, .int (r : Nat), rfl, EvS.lend (t := 1) (ds := ds) (es := [.int ((M : Nat) + 1)]) rfl (.cons (ev_addI (.var rfl) .k) .nil) rfl f1, ⟨ds2, f3, rfl⟩, r, rfl, by omega⟩
  rw [List.length_range] at h2 h4
  obtain ⟨r, rfl, hr⟩ := ints_of h3
  rw [Nat.one_mul] at h4
  exact ⟨r, ds2, ⟨_, h1, rfl⟩, ⟨by simpa using h2, hr⟩, h4⟩
theorem grid_ok {ds : List D} {m R C M : Nat} (G : Gen m ds) (hm : m + 36 < 2 ^ 50) (hR1 : 1 ≤ R) (hR : R ≤ 6) (hC1 : 1 ≤ C) (hC : C ≤ 6) (hM : M ≤ 900) : ∃ (g : Grid) (ds2 : List D), FrO F_l_grid ds [.int (R : Nat), .int (C : Nat), .int (M : Nat)] ds2 (gridD g) ∧ Good R C g ∧ (∀ r ∈ g, ∀ y ∈ r, y ≤ (M : Nat)) ∧ Gen (m + C * R) ds2 := by
  have hCR : C * R ≤ 36 := Nat.mul_le_mul hC hR
  obtain ⟨es, ρ', h1, h2, h3, ds2, h4, rfl⟩ := evs_lc (src := srcA (fCons (fVar 1) (fNil)) kRng1) (bind := bName 5) (fe := fLc (srcA (fCons (fVar 2) (fNil)) kRng1) (bName 4) (fC (.bool true)) (fLend 2 0 F_l_random (fCons (fOp2 gAdd (fVar 3) (fC (.int 1))) (fNil))) [4]) (vs := [5]) (ρ := gEnv ds R C M none) (fun i : Nat => .int (i : Nat)) C (m + 36) (fun k ρ => ∃ ds, Gen k ds ∧ ρ = gEnv ds R C M none) (fun d => ∃ r, d = rowD r ∧ (r.length = C ∧ ∀ y ∈ r, 0 ≤ y ∧ y ≤ (M : Nat))) (List.range R) m
    (srcA_ok (.cons (.var rfl) .nil) (rng1 (Nat.lt_of_le_of_lt hR (by decide)))) rfl (by rw [List.length_range]; exact Nat.le_trans hR (by decide)) (by rw [List.length_range]; omega) ⟨ds, G, rfl⟩ fun j hj k ρ hI hk => by
      obtain ⟨ds, G, rfl⟩ := hI
      obtain ⟨r, ds2, f1, f2, f3⟩ := row_ok (R := R) G (by omega) hC hM (some (.pu (.int (j : Nat))))
      exact ⟨_, _, rowD r, rfl, f1, ⟨ds2, f3, rfl⟩, r, rfl, f2⟩
  rw [List.length_range] at h2 h4
  obtain ⟨g, rfl, hg⟩ := rows_of h3
  have q : EvS (fLc (srcA (fCons (fVar 1) (fNil)) kRng1) (bName 5) (fC (.bool true)) (fLc (srcA (fCons (fVar 2) (fNil)) kRng1) (bName 4) (fC (.bool true)) (fLend 2 0 F_l_random (fCons (fOp2 gAdd (fVar 3) (fC (.int 1))) (fNil))) [4]) [5]) (gEnv ds R C M none) (gEnv ds2 R C M none) (gridD g) := ⟨_, h1, rfl⟩
  obtain ⟨w, q1, q2⟩ := ret_s q
  refine ⟨g, ds2, frO_of (ρ' := gEnv ds2 R C M none) q1 q2 rfl, ⟨⟨by simpa using h2, fun r hr => (hg r hr).1⟩, NN.of fun r hr y hy => ((hg r hr).2 y hy).1, hR1, hR, hC1, hC⟩, fun r hr y hy => ((hg r hr).2 y hy).2, h4⟩
theorem drawn_ok {ds : List D} {m R C : Nat} {g : Grid} (G : Gen m ds) (hm : m + 4 < 2 ^ 50) (P : Good R C g) : ∃ (a b c d : Nat) (ds2 : List D), FrO F_l_drawn_swap ds [gridD g] ds2 (swD a b c d) ∧ a < R ∧ b < R ∧ c < C ∧ d < C ∧ Gen (m + 4) ds2 := by
  have hR := P.R6
  have hC := P.C6
  have hR1 := P.R1
  have hC1 := P.C1
  obtain ⟨a, d1, f1, l1, G1⟩ := random_ok (b := (R : Nat)) G (by omega) (by omega) (by omega)
  obtain ⟨b, d2, f2, l2, G2⟩ := random_ok (b := (R : Nat)) G1 (by omega) (by omega) (by omega)
  obtain ⟨c, d3, f3, l3, G3⟩ := random_ok (b := (C : Nat)) G2 (by omega) (by omega) (by omega)
  obtain ⟨d, d4, f4, l4, G4⟩ := random_ok (b := (C : Nat)) G3 (by omega) (by omega) (by omega)
  refine ⟨a, b, c, d, d4, ?_, by omega, by omega, by omega, by omega, G4⟩
  have r1 : EvS (fLend 2 0 F_l_random (fCons (bndA (fCons (fVar 1) (fNil)) gLen) (fNil))) [some (.own 1 ds), some (.pu (gridD g))] [some (.own 1 d1), some (.pu (gridD g))] (.int (a : Nat)) := EvS.lend (t := 1) (ds := ds) (es := [.int (R : Nat)]) rfl (.cons (ev_len P (.var rfl)) .nil) rfl f1
  have r2 : EvS (fLend 2 0 F_l_random (fCons (bndA (fCons (fVar 1) (fNil)) gLen) (fNil))) [some (.own 1 d1), some (.pu (gridD g))] [some (.own 1 d2), some (.pu (gridD g))] (.int (b : Nat)) := EvS.lend (t := 1) (ds := d1) (es := [.int (R : Nat)]) rfl (.cons (ev_len P (.var rfl)) .nil) rfl f2
  have r3 : EvS (fLend 2 0 F_l_random (fCons (bndA (fCons (fOp2 gIx (fVar 1) (fC (.int 0))) (fNil)) gLen) (fNil))) [some (.own 1 d2), some (.pu (gridD g))] [some (.own 1 d3), some (.pu (gridD g))] (.int (c : Nat)) := EvS.lend (t := 1) (ds := d2) (es := [.int (C : Nat)]) rfl (.cons (ev_len0 P (.var rfl)) .nil) rfl f3
  have r4 : EvS (fLend 2 0 F_l_random (fCons (bndA (fCons (fOp2 gIx (fVar 1) (fC (.int 0))) (fNil)) gLen) (fNil))) [some (.own 1 d3), some (.pu (gridD g))] [some (.own 1 d4), some (.pu (gridD g))] (.int (d : Nat)) := EvS.lend (t := 1) (ds := d3) (es := [.int (C : Nat)]) rfl (.cons (ev_len0 P (.var rfl)) .nil) rfl f4
  have q := EvS.bndA (k := gMkT) (w := .pu (swD a b c d)) (EvLS.cons r1 (EvLS.cons r2 (EvLS.cons r3 (EvLS.cons r4 EvLS.nil)))) rfl
  obtain ⟨w, q1, q2⟩ := ret_s q
  exact frO_of (ρ' := [some (.own 1 d4), some (.pu (gridD g))]) q1 q2 rfl
/-! ### same -/
theorem same_bool (n : Nat) (b : Bool) : Fr (F_l_same (n + 1)) [.bool b, .bool b] (.bool true) := by
  cases b <;> exact ⟨_, rfl, rfl⟩
theorem same_none (n : Nat) : Fr (F_l_same (n + 1)) [.none, .none] (.bool true) := ⟨_, rfl, rfl⟩
theorem ev_isN {ρ : DL.Env} {fa : DL.Env → RE} {d : D} (ha : Ev fa ρ d) : Ev (fOp2 gIsN fa (fC .none)) ρ (.bool (isNone d)) := Ev.op2 (w := .pu (.bool (isNone d))) ha .k rfl
theorem ev_isB {ρ : DL.Env} {fa : DL.Env → RE} {d : D} {b : Bool} (ha : Ev fa ρ d) : Ev (fOp2 gIsN fa (fC (.bool b))) ρ (.bool (isBl b d)) := Ev.op2 (w := .pu (.bool (isBl b d))) ha .k rfl
theorem ev_isi {ρ : DL.Env} {fa : DL.Env → RE} {d : D} {n : String} (ha : Ev fa ρ d) (h : dOk d = true) : Ev (fOp1 (gIsi n) fa) ρ (.bool (isA n d)) := Ev.op1 (w := .pu (.bool (isA n d))) ha (by unfold gIsi; rw [if_pos h])
theorem ev_isi2 {ρ : DL.Env} {fa : DL.Env → RE} {d : D} {n m : String} (ha : Ev fa ρ d) (h : dOk d = true) : Ev (fOp1 (gIsi2 n m) fa) ρ (.bool (isA n d || isA m d)) := Ev.op1 (w := .pu (.bool (isA n d || isA m d))) ha (by unfold gIsi2; rw [if_pos h])
theorem same_int (n : Nat) (i : Int) : Fr (F_l_same (n + 1)) [.int i, .int i] (.bool true) := by
  refine fr_of (Rt.guard (x := false) (.or (x := false) (y := false) (ev_isN (d := .int i) (.var rfl)) fun _ => .or (x := false) (y := false) (ev_isB (b := true) (d := .int i) (.var rfl)) fun _ => ev_isB (b := false) (d := .int i) (.var rfl)) (fun z => nomatch z) fun _ => Rt.seq (ρ1 := args 3 [.int i, .int i]) (Nx.if (x := false) (ev_isi2 (n := "list") (m := "tuple") (d := .int i) (.var rfl) rfl) (fun z => nomatch z) fun _ => .nx) (Rt.now (Rt.if (x := true) (ev_isi (n := "int") (d := .int i) (.var rfl) rfl) (fun _ => .ret ?_ rfl) fun z => nomatch z)))
  have e := Ev.and (x := true) (y := true) (fa := fOp1 (gIsi "int") (fVar 0)) (fb := fAnd (fNot (fOp1 (gIsi "bool") (fVar 0))) (fOp2 gEq (fVar 0) (fVar 1))) (ρ := args 3 [.int i, .int i]) (ev_isi (n := "int") (d := .int i) (.var rfl) rfl) fun _ => Ev.and (x := true) (y := true) (.not (x := false) (ev_isi (n := "bool") (d := .int i) (.var rfl) rfl)) fun _ => by
    have z := ev_eqI (fa := fVar 0) (fb := fVar 1) (ρ := args 3 [.int i, .int i]) (i := i) (j := i) (.var rfl) (.var rfl)
    rw [decide_eq_true rfl] at z
    exact z
  exact e
theorem same_list (n : Nat) {ds : List D} (hl : ds.length ≤ 1000) (h : ∀ d ∈ ds, Fr (F_l_same n) [d, d] (.bool true)) : Fr (F_l_same (n + 1)) [.list ds, .list ds] (.bool true) := by
  refine fr_of (Rt.guard (x := false) (.or (x := false) (y := false) (ev_isN (d := .list ds) (.var rfl)) fun _ => .or (x := false) (y := false) (ev_isB (b := true) (d := .list ds) (.var rfl)) fun _ => ev_isB (b := false) (d := .list ds) (.var rfl)) (fun z => nomatch z) fun _ => Rt.now (Rt.if (x := true) (ev_isi2 (n := "list") (m := "tuple") (d := .list ds) (.var rfl) rfl) (fun _ => ?_) fun z => nomatch z))
  refine Rt.guard (x := false) (.or (x := false) (y := false) (.and (x := false) (y := true) (.not (x := true) (ev_isi (n := "list") (d := .list ds) (.var rfl) rfl)) fun z => nomatch z) fun _ => .and (x := true) (y := false) (.not (x := false) (ev_isi (n := "tuple") (d := .list ds) (.var rfl) rfl)) fun _ => ev_isi (n := "tuple") (d := .list ds) (.var rfl) rfl) (fun z => nomatch z) fun _ => .ret ?_ rfl
  refine Ev.and (x := true) (y := true) ?_ fun _ => ?_
  · have z := ev_eqI (fa := bndA (fCons (fVar 0) (fNil)) gLen) (fb := bndA (fCons (fVar 1) (fNil)) gLen) (ρ := args 3 [.list ds, .list ds]) (i := ds.length) (j := ds.length) (Ev.bndA (.cons (.var rfl) .nil) len_list) (Ev.bndA (.cons (.var rfl) .nil) len_list)
    rw [decide_eq_true rfl] at z
    exact z
  · have s : 1000 ≤ sizeLine := by decide
    have z := evl_gen (src := srcA (fCons (bndA (fCons (fVar 1) (fNil)) gLen) (fNil)) kRng1) (bind := bName 2) (ft := fNot (fCall 2 (F_l_same n) (fCons (fOp2 gIx (fVar 0) (fVar 2)) (fCons (fOp2 gIx (fVar 1) (fVar 2)) (fNil))))) (fe := fVar 2) (vs := [2]) (ρ := args 3 [.list ds, .list ds]) (fun i : Nat => .int (i : Nat)) (fun i : Nat => .int (i : Nat)) (fun _ => false) (List.range ds.length) (srcA_ok (.cons (Ev.bndA (.cons (.var rfl) .nil) len_list) .nil) (rng1 (Nat.lt_of_le_of_lt hl (by decide)))) rfl (by rw [List.length_range]; omega) fun i hi => by
      have hi' := List.mem_range.mp hi
      have e : gIx (.list ds) (.int (i : Nat)) = some (.pu ds[i]) := by
        show (atI ds (i : Int)).map W.pu = _
        rw [atI_nat (List.getElem?_eq_getElem hi')]
        rfl
      exact ⟨_, rfl, .not (x := true) (.call (.cons (Ev.op2 (w := .pu ds[i]) (.var rfl) (.var rfl) e) (.cons (Ev.op2 (w := .pu ds[i]) (.var rfl) (.var rfl) e) .nil)) (h _ (List.getElem_mem hi')) rfl), fun z => (nomatch z), rfl⟩
    rw [List.filter_eq_nil_iff.mpr (fun _ _ => by simp)] at z
    exact Ev.op2 (w := .pu (.bool true)) z.ev (Ev.bndA (w := .frs []) .nil rfl) eq_nil
theorem same_row (n : Nat) {r : List Int} (hl : r.length ≤ 1000) : Fr (F_l_same (n + 2)) [rowD r, rowD r] (.bool true) := same_list (n + 1) (by rw [List.length_map]; exact hl) fun d hd => by
  obtain ⟨x, hx, rfl⟩ := List.mem_map.mp hd
  exact same_int n x
theorem same_grid (n : Nat) {R C : Nat} {g : Grid} (G : Good R C g) : Fr (F_l_same (n + 3)) [gridD g, gridD g] (.bool true) := same_list (n + 2) (by rw [List.length_map, G.G.len]; exact Nat.le_trans G.R6 (by decide)) fun d hd => by
  obtain ⟨x, hx, rfl⟩ := List.mem_map.mp hd
  exact same_row n (by rw [G.G.row x hx]; exact Nat.le_trans G.C6 (by decide))
end K54
/-! E8: _law_pair_right. -/
namespace K54
open PySem L2 PyProof.Rows DL
abbrev s_l_pair_right : Stmt := top 54
abbrev N_l_pair_right : List Str := ["generator", "page", "other", "kept", "told", "alike", "values", "swap", "value", "due", "copy"]
theorem sc_l_pair_right : FnScope N_l_pair_right ["generator", "page", "other"] (defScope s_l_pair_right) := ⟨rfl, rfl, rfl, by decide +kernel, rfl, by decide +kernel, by decide +kernel⟩
def g_l_pair_right (ca : Str → Addr) : DL.Env → RS := sSeq (sPar 3 4 (bndA (fCons (bndA (fCons (fVar 1) (fCons (fVar 2) (fNil))) gMkL) (fNil)) gRepr) (fCall 2 (F_swaps_between ca) (fCons (fVar 1) (fCons (fVar 2) (fNil))))) (sStretch 4 (sSeq (sPut 5 (fOp2 gEq (fCall 1 F_l_margins (fCons (fVar 1) (fNil))) (fCall 1 F_l_margins (fCons (fVar 2) (fNil))))) (sSeq (sIf (fOr (fOp2 gNe (fOp2 gNotN (fVar 4) (fC .none)) (fVar 5)) (fAnd (fOp2 gNotN (fVar 4) (fC .none)) (fNot (fCall 3 F_l_are_swaps (fCons (fVar 1) (fCons (fVar 2) (fCons (fVar 4) (fNil)))))))) (sRet (fC (.bool false))) (.nx)) (sSeq (sPut 6 (bndA (fCons (fVar 4) (fCons (bndA (fNil) gMkL) (fCons (bndA (fCons (fLend 2 0 F_l_drawn_swap (fCons (fVar 1) (fNil))) (fNil)) gMkL) (fCons (fC .none) (fCons (fC (.int 7)) (fCons (fDict0) (fCons (bndA (fNil) gMkT) (fCons (bndA (fCons (fC .none) (fNil)) gMkL) (fNil))))))))) gMkL)) (sSeq (sIf (fOp2 gNotN (fVar 4) (fC .none)) (sPut 6 (fOp2 gAdd (fVar 6) (bndA (fCons (fOp1 gRev (fVar 4)) (fCons (fOp2 gAdd (fVar 4) (fOp1 (gCut none (some 1)) (fVar 4))) (fCons (fOp1 (gCut (some 1) none) (fVar 4)) (fCons (bndA (fCons (fVar 4) (fNil)) gTupleOf) (fCons (fLc (srcE (fVar 4) itemsL) (bName 7) (fC (.bool true)) (bndA (fCons (fVar 7) (fNil)) gListOf) [7]) (fNil)))))) gMkL))) (.nx)) (sSeq (sFor (srcE (fVar 6) itemsL) (bName 8) (sSeq (sPut 9 (fCall 3 F_l_are_swaps (fCons (fVar 1) (fCons (fVar 2) (fCons (fVar 8) (fNil)))))) (sIf (fNot (fCall 2 (F_l_same 8) (fCons (bndA (fCons (fCall 3 (F_are_swaps_between ca) (fCons (fVar 1) (fCons (fVar 2) (fCons (fVar 8) (fNil))))) (fCons (fCallG 3 (pick .none [2, 1, 0]) (F_are_swaps_between ca) (fCons (fVar 8) (fCons (fVar 2) (fCons (fVar 1) (fNil))))) (fNil))) gMkL) (fCons (bndA (fCons (fVar 9) (fCons (fVar 9) (fNil))) gMkL) (fNil))))) (sRet (fC (.bool false))) (.nx)))) (sPut 10 (bndA (fCons (fVar 4) (fNil)) gRepr))))))) (sSeq (sIf (fNotNO 4) (sApp 4 (fC (.int 7))) (.nx)) (sRet (fAnd (fOp2 gEq (bndA (fCons (fCallG 2 (pick .none [1, 0]) (F_swaps_between ca) (fCons (fVar 2) (fCons (fVar 1) (fNil)))) (fNil)) gRepr) (fVar 10)) (fOp2 gEq (bndA (fCons (bndA (fCons (fVar 1) (fCons (fVar 2) (fNil))) gMkL) (fNil)) gRepr) (fVar 3))))))
def F_l_pair_right (ca : Str → Addr) : List Sl → RF := fnF 11 (g_l_pair_right ca)
theorem b_l_pair_right {P : Program} {w : World} {K : PySem.W.Frag} {mg : Str → Option Value} {base : Heap} {ca : Str → Addr} (B : Bl mg) (d_swaps_between : Df P w K mg base "swaps_between" s_swaps_between 6 ["grid", "other_grid"] (F_swaps_between ca)) (d_l_margins : Df P w K mg base "_law_margins" s_l_margins 1 ["page"] F_l_margins) (d_l_are_swaps : Df P w K mg base "_law_are_swaps" s_l_are_swaps 3 ["page", "other", "value"] F_l_are_swaps) (d_l_drawn_swap : Df P w K mg base "_law_drawn_swap" s_l_drawn_swap 3 ["generator", "page"] F_l_drawn_swap) (d_l_same : Df P w K mg base "_law_same" s_l_same 8 ["told", "due"] (F_l_same 8)) (d_are_swaps_between : Df P w K mg base "are_swaps_between" s_are_swaps_between 6 ["grid", "other_grid", "value"] (F_are_swaps_between ca)) {f : Addr} {cdv : Value} {A : Around} {outer : List PySem.Env} {s : Shared} {H : Hp} {E : XK} (c : Cn (fx P w K mg base N_l_pair_right "_law_pair_right" s_l_pair_right f cdv A outer s H E) E 8) :
    DSs (fx P w K mg base N_l_pair_right "_law_pair_right" s_l_pair_right f cdv A outer s H E) E (defBody s_l_pair_right) (g_l_pair_right ca) := by
  have nd := sc_l_pair_right.nd
  exact dss_cons (ds_par (i := 3) (j := 4) c.cm nd rfl rfl (by decide) rfl rfl (d_repr c (da_cons (de_mkL (da_cons (de_var (pv 1)) (da_cons (de_var (pv 2)) (da_nil)))) (da_nil)) B.repr) (de_call d_swaps_between c (da_cons (de_var (pv 1)) (da_cons (de_var (pv 2)) (da_nil)))))
    (dss_stretchN 6
    (dss_cons (ds_put (i := 5) nd rfl (by first | exact .inl rfl | exact .inr rfl) (d_eq c.rm.units (de_call d_l_margins c (da_cons (de_var (pv 1)) (da_nil))) (de_call d_l_margins c (da_cons (de_var (pv 2)) (da_nil)))))
    (dss_cons (ds_if (dt_w (dw_or (t_ne c (d_isnot (de_var (pv 4)) (de_non)) (de_var (pv 5))) (dw_or1 (dt_w (dw_and (t_isnot (de_var (pv 4)) (de_non)) (dw_and1 (dt_not (dt_val (de_call d_l_are_swaps c (da_cons (de_var (pv 1)) (da_cons (de_var (pv 2)) (da_cons (de_var (pv 4)) (da_nil))))))))))))) (dss_one (ds_ret (de_bl))) (dss_nil))
    (dss_cons (ds_put (i := 6) nd rfl (by first | exact .inl rfl | exact .inr rfl) (de_mkL (da_cons (de_var (pv 4)) (da_cons (de_mkL (da_nil)) (da_cons (de_mkL (da_cons (de_lend d_l_drawn_swap c (pv 0) (da_cons (de_var (pv 1)) (da_nil))) (da_nil))) (da_cons (de_non) (da_cons (de_int) (da_cons (de_dict0) (da_cons (de_mkT (da_nil)) (da_cons (de_mkL (da_cons (de_non) (da_nil))) (da_nil)))))))))))
    (dss_cons (ds_if (t_isnot (de_var (pv 4)) (de_non)) (dss_one (ds_put (i := 6) nd rfl (by first | exact .inl rfl | exact .inr rfl) (d_add (de_var (pv 6)) (de_mkL (da_cons (d_rev (de_var (pv 4))) (da_cons (d_add (de_var (pv 4)) (de_cut po_n po_c (de_var (pv 4)))) (da_cons (de_cut po_c po_n (de_var (pv 4))) (da_cons (d_tupleOf B (da_cons (de_var (pv 4)) (da_nil))) (da_cons (de_lc (own := [("swap", 7)]) c.cm nd (di_list (de_var (pv 4))) (blkOk_by (by rfl)) (gt_name) (by decide) (fun _ _ _ _ _ => pg_name nd (i := 7) rfl (by first | exact .inl rfl | exact .inr rfl)) (fun _ _ _ _ _ => dts_nil) (fun _ _ _ _ _ => d_list B (da_cons (de_var (pv 7)) (da_nil)))) (da_nil)))))))))) (dss_nil))
    (dss_cons (ds_for (passes_of rfl) c.cm (di_list (de_var (pv 6))) (gt_name) (pg_name nd (i := 8) rfl (by first | exact .inl rfl | exact .inr rfl)) (dss_cons (ds_put (i := 9) nd rfl (by first | exact .inl rfl | exact .inr rfl) (de_call d_l_are_swaps c (da_cons (de_var (pv 1)) (da_cons (de_var (pv 2)) (da_cons (de_var (pv 8)) (da_nil))))))
    (dss_one (ds_if (dt_not (dt_val (de_call d_l_same c (da_cons (de_mkL (da_cons (de_call d_are_swaps_between c (da_cons (de_var (pv 1)) (da_cons (de_var (pv 2)) (da_cons (de_var (pv 8)) (da_nil))))) (da_cons (de_callK d_are_swaps_between c ["value", "other_grid", "grid"] [2, 1, 0] (dk_cons (de_var (pv 8)) (dk_cons (de_var (pv 2)) (dk_cons (de_var (pv 1)) (dk_nil)))) (fun _ _ _ _ _ _ us hl => match us, hl with | [_, _, _], _ => rfl)) (da_nil)))) (da_cons (de_mkL (da_cons (de_var (pv 9)) (da_cons (de_var (pv 9)) (da_nil)))) (da_nil)))))) (dss_one (ds_ret (de_bl))) (dss_nil)))))
    (dss_one (ds_put (i := 10) nd rfl (by first | exact .inl rfl | exact .inr rfl) (d_repr c (da_cons (de_var (pv 4)) (da_nil)) B.repr))))))))
    (dss_cons (ds_if (t_notNO (pv 4)) (dss_one (ds_app (fun _ h => pe_bm PySem.F.plainAttrs_list PySem.F.slot_list_append PySem.F.type_list_append mt_append (pv 4) (pa_cons h pa_nil)) (de_int))) (dss_nil))
    (dss_one (ds_ret (de_and (d_eq c.rm.units (d_repr c (da_cons (de_callK d_swaps_between c ["other_grid", "grid"] [1, 0] (dk_cons (de_var (pv 2)) (dk_cons (de_var (pv 1)) (dk_nil))) (fun _ _ _ _ _ _ us hl => match us, hl with | [_, _], _ => rfl)) (da_nil)) B.repr) (de_var (pv 10))) (de_one (d_eq c.rm.units (d_repr c (da_cons (de_mkL (da_cons (de_var (pv 1)) (da_cons (de_var (pv 2)) (da_nil)))) (da_nil)) B.repr) (de_var (pv 3)))))))))
theorem df_l_pair_right {P : Program} {w : World} {K : PySem.W.Frag} {mg : Str → Option Value} {base : Heap} {ca : Str → Addr} (B : Bl mg) (d_swaps_between : Df P w K mg base "swaps_between" s_swaps_between 6 ["grid", "other_grid"] (F_swaps_between ca)) (d_l_margins : Df P w K mg base "_law_margins" s_l_margins 1 ["page"] F_l_margins) (d_l_are_swaps : Df P w K mg base "_law_are_swaps" s_l_are_swaps 3 ["page", "other", "value"] F_l_are_swaps) (d_l_drawn_swap : Df P w K mg base "_law_drawn_swap" s_l_drawn_swap 3 ["generator", "page"] F_l_drawn_swap) (d_l_same : Df P w K mg base "_law_same" s_l_same 8 ["told", "due"] (F_l_same 8)) (d_are_swaps_between : Df P w K mg base "are_swaps_between" s_are_swaps_between 6 ["grid", "other_grid", "value"] (F_are_swaps_between ca)) {f : Addr} {fd : FuncData} (F : FunD K "_law_pair_right" "_law_pair_right" (defArgs s_l_pair_right) (defBody s_l_pair_right) (defScope s_l_pair_right) [] [] f fd) (hm : mg "_law_pair_right" = some (.ref f)) : Df P w K mg base "_law_pair_right" s_l_pair_right 9 ["generator", "page", "other"] (F_l_pair_right ca) :=
  Df.mk' F hm sc_l_pair_right rfl (fun _ _ _ _ _ _ us hl => match us, hl with | [_, _, _], _ => rfl) fun cdv A outer s H E c => b_l_pair_right B d_swaps_between d_l_margins d_l_are_swaps d_l_drawn_swap d_l_same d_are_swaps_between c


end K54
/-! E9: _law_swaps_right. -/
namespace K54
open PySem L2 PyProof.Rows DL
/-- the table of a def's lambdas -/
structure MakT (K : PySem.W.Frag) (mg : Str → Option Value) (base : Heap) (x : Str) : Prop where
  TB : LamX.TabB base mg (He.cT K (x, none)).1 (He.cT K (x, none)).2
  hu : ∀ p ∈ TbK K, p.1 = (He.cT K (x, none)).2 → p.2 = x ++ ".<locals>." ++ "<lambda>"
section
variable {P : Program} {w : World} {K : PySem.W.Frag} {mg : Str → Option Value} {base : Heap}
theorem mk_of {x : Str} {N : List Str} {st : Stmt} {f : Addr} {A : Around} {outer : List PySem.Env} {s : Shared} {H : Hp} {E : XK} (Mt : MakT K mg base x) (h : ((He.cT K (x, none)).2, x ++ ".<locals>." ++ "<lambda>") ∈ TbK K) : Maker (fx P w K mg base N x st f (.ref (He.cT K (x, none)).1) A outer s H E) :=
  ⟨⟨_, _, Mt.TB, rfl, h, Mt.hu⟩, fun _ => rfl⟩
theorem Df_mkC {x : Str} {st : Stmt} {f : Addr} {fd : FuncData} {N ps : List Str} {k n : Nat} {g : DL.Env → RS} {cd : Addr} (F : FunD K x x (defArgs st) (defBody st) (defScope st) [] [] f fd) (hm : mg x = some (.ref f)) (S : FnScope N ps (defScope st)) (hn : N.length = n)
    (hb : ∀ (kV doc pm : Value) (an : Option Addr) (cdv ct : Value) (us : List Value), us.length = ps.length → bindArgs (PySem.W.fnOf x x (defArgs st) (defBody st) (defScope st) .none kV doc pm an cdv ct) ⟨us, []⟩ = pure (ps.zip us)) (hcd : fd.code = .ref cd)
    (hbody : ∀ (A : Around) (outer : List PySem.Env) (s : Shared) (H : Hp) (E : XK), Cn (fx P w K mg base N x st f (.ref cd) A outer s H E) E k → DSs (fx P w K mg base N x st f (.ref cd) A outer s H E) E (defBody st) g) :
    Df P w K mg base x st (k + 1) ps (fnF n g) := by
  obtain ⟨oc, od, kV, doc, pm, an, cdv, ct, osl, rfl, lk, hcd2⟩ := (Fun.ofD F).ex
  obtain rfl : cdv = .ref cd := hcd
  refine ⟨f, _, hm, ⟨fun A outer s H args us vs Q E hg hr e0 hb rv hl h => LamX.run_ofS lk hcd2 S hr e0 hb rv hl fun hr2 => ?_⟩, F.kp, hb kV doc pm an _ ct, kV, doc, pm, an, _, ct, rfl⟩
  exact ⟨_, (hbody A outer s H E ⟨hg, hr2, passes_call (W := fun cls d _ H => E cls d H) (takes_of rfl rfl rfl rfl) (fun _ _ _ _ h => h), takes_of rfl rfl rfl rfl, rfl⟩).pss, fnF_of hn h⟩
end
theorem mem_TbK {K : PySem.W.Frag} {x q q2 : Str} (h : ((x, none), q) ∈ lamDefs) (e : q2 = q) : ((He.cT K (x, none)).2, q2) ∈ TbK K := by
  subst e
  exact List.mem_map.mpr ⟨_, h, rfl⟩
abbrev s_l_swaps_right : Stmt := top 53
abbrev N_l_swaps_right : List Str := ["generator", "page", "swaps", "turn", "swap", "due"]
theorem sc_l_swaps_right : FnScope N_l_swaps_right ["generator", "page"] (defScope s_l_swaps_right) := ⟨rfl, rfl, rfl, by decide +kernel, rfl, by decide +kernel, by decide +kernel⟩
noncomputable def g_l_swaps_right (K : PySem.W.Frag) (ca : Str → Addr) : DL.Env → RS := sSeq (sPut 2 (fLc (srcA (fCons (fC (.int 8)) (fNil)) kRng1) (bName 3) (fC (.bool true)) (fLend 2 0 F_l_drawn_swap (fCons (fVar 1) (fNil))) [3])) (sSeq (sPut 2 (fOp2 gAdd (fVar 2) (bndA (fCons (fC .none) (fCons (fC (.int 7)) (fCons (bndA (fNil) gMkT) (fCons (bndA (fCons (fC (.int 0)) (fCons (fC (.int 1)) (fCons (fC (.int 0)) (fNil)))) gMkT) (fCons (bndA (fCons (fC (.int 0)) (fCons (fC (.int 1)) (fCons (fC (.int 0)) (fCons (fC (.int 1)) (fNil))))) gMkL) (fCons (bndA (fCons (fC (.int 0)) (fCons (fC (.int 1)) (fCons (fC (.int 0)) (fCons (fC (.int 1)) (fCons (fC (.int 0)) (fNil)))))) gMkT) (fCons (bndA (fCons (fC (.int 0)) (fCons (fC (.int 9)) (fCons (fC (.int 0)) (fCons (fC (.int 1)) (fNil))))) gMkT) (fCons (bndA (fCons (fOp2 gSub (fC (.int 0)) (fC (.int 1))) (fCons (fC (.int 0)) (fCons (fC (.int 0)) (fCons (fC (.int 1)) (fNil))))) gMkT) (fCons (bndA (fCons (fC (.bool false)) (fCons (fC (.bool true)) (fCons (fC (.int 0)) (fCons (fC (.int 1)) (fNil))))) gMkT) (fCons (bndA (fCons (fC (.int 0)) (fCons (fC (.int 1)) (fCons (fC (.int 0)) (fCons (fC .none) (fNil))))) gMkT) (fCons (fC (.str "0101")) (fCons (fDict0) (fNil))))))))))))) gMkL))) (sSeq (sFor (srcE (fVar 2) itemsL) (bName 4) (sIf (fCall 2 F_l_swap_ok (fCons (fVar 1) (fCons (fVar 4) (fNil)))) (sSeq (sPut 5 (fCall 2 F_l_behind (fCons (fVar 1) (fCons (fVar 4) (fNil))))) (sIf (fNot (fCall 2 (F_l_same 8) (fCons (bndA (fCons (fCall 2 (F_swapped ca) (fCons (fVar 1) (fCons (fVar 4) (fNil)))) (fCons (fCallG 2 (pick .none [1, 0]) (F_swapped ca) (fCons (fVar 4) (fCons (fVar 1) (fNil)))) (fNil))) gMkL) (fCons (bndA (fCons (fVar 5) (fCons (fVar 5) (fNil))) gMkL) (fNil))))) (sRet (fC (.bool false))) (.nx))) (sIf (fNot (fRefd K ca "InvalidEdit" "edit" (fCall 2 (F_swapped ca) (fCons (fVar 1) (fCons (fVar 4) (fNil)))) 4)) (sRet (fC (.bool false))) (.nx)))) (sRet (fC (.bool true)))))
noncomputable def F_l_swaps_right (K : PySem.W.Frag) (ca : Str → Addr) : List Sl → RF := fnF 6 (g_l_swaps_right K ca)
theorem b_l_swaps_right {P : Program} {w : World} {K : PySem.W.Frag} {mg : Str → Option Value} {base : Heap} {ca : Str → Addr} (B : Bl mg) (d_l_drawn_swap : Df P w K mg base "_law_drawn_swap" s_l_drawn_swap 3 ["generator", "page"] F_l_drawn_swap) (d_l_swap_ok : Df P w K mg base "_law_swap_ok" s_l_swap_ok 2 ["page", "value"] F_l_swap_ok) (d_l_behind : Df P w K mg base "_law_behind" s_l_behind 1 ["page", "swap"] F_l_behind) (d_l_same : Df P w K mg base "_law_same" s_l_same 8 ["told", "due"] (F_l_same 8)) (d_swapped : Df P w K mg base "swapped" s_swapped 6 ["grid", "swap"] (F_swapped ca)) (R : RefKit P w K mg base ca) {f : Addr} {cdv : Value} {A : Around} {outer : List PySem.Env} {s : Shared} {H : Hp} {E : XK} (Mk : Maker (fx P w K mg base N_l_swaps_right "_law_swaps_right" s_l_swaps_right f cdv A outer s H E)) (c : Cn (fx P w K mg base N_l_swaps_right "_law_swaps_right" s_l_swaps_right f cdv A outer s H E) E 11) :
    DSs (fx P w K mg base N_l_swaps_right "_law_swaps_right" s_l_swaps_right f cdv A outer s H E) E (defBody s_l_swaps_right) (g_l_swaps_right K ca) := by
  have nd := sc_l_swaps_right.nd
  exact dss_cons (ds_lc (ps_lc (own := [("turn", 3)]) c.cm nd (i := 2) rfl (di_rng1 rfl B.range (da_cons (de_int) (da_nil))) (blkOk_by (by rfl)) (gt_name) (by decide) (fun _ _ _ _ _ => pg_name nd (i := 3) rfl (by first | exact .inl rfl | exact .inr rfl)) (fun _ _ _ _ _ => dts_nil) (fun _ _ _ _ _ => de_lend d_l_drawn_swap c.blk (pv 0) (da_cons (de_var (pv 1)) (da_nil))) rfl))
    (dss_cons (ds_put (i := 2) nd rfl (by first | exact .inl rfl | exact .inr rfl) (d_add (de_var (pv 2)) (de_mkL (da_cons (de_non) (da_cons (de_int) (da_cons (de_mkT (da_nil)) (da_cons (de_mkT (da_cons (de_int) (da_cons (de_int) (da_cons (de_int) (da_nil))))) (da_cons (de_mkL (da_cons (de_int) (da_cons (de_int) (da_cons (de_int) (da_cons (de_int) (da_nil)))))) (da_cons (de_mkT (da_cons (de_int) (da_cons (de_int) (da_cons (de_int) (da_cons (de_int) (da_cons (de_int) (da_nil))))))) (da_cons (de_mkT (da_cons (de_int) (da_cons (de_int) (da_cons (de_int) (da_cons (de_int) (da_nil)))))) (da_cons (de_mkT (da_cons (d_sub (de_int) (de_int)) (da_cons (de_int) (da_cons (de_int) (da_cons (de_int) (da_nil)))))) (da_cons (de_mkT (da_cons (de_bl) (da_cons (de_bl) (da_cons (de_int) (da_cons (de_int) (da_nil)))))) (da_cons (de_mkT (da_cons (de_int) (da_cons (de_int) (da_cons (de_int) (da_cons (de_non) (da_nil)))))) (da_cons (de_str) (da_cons (de_dict0) (da_nil))))))))))))))))
    (dss_cons (ds_for (passes_of rfl) c.cm (di_list (de_var (pv 2))) (gt_name) (pg_name nd (i := 4) rfl (by first | exact .inl rfl | exact .inr rfl)) (dss_one (ds_if (dt_val (de_call d_l_swap_ok c (da_cons (de_var (pv 1)) (da_cons (de_var (pv 4)) (da_nil))))) (dss_cons (ds_put (i := 5) nd rfl (by first | exact .inl rfl | exact .inr rfl) (de_call d_l_behind c (da_cons (de_var (pv 1)) (da_cons (de_var (pv 4)) (da_nil)))))
    (dss_one (ds_if (dt_not (dt_val (de_call d_l_same c (da_cons (de_mkL (da_cons (de_call d_swapped c (da_cons (de_var (pv 1)) (da_cons (de_var (pv 4)) (da_nil)))) (da_cons (de_callK d_swapped c ["swap", "grid"] [1, 0] (dk_cons (de_var (pv 4)) (dk_cons (de_var (pv 1)) (dk_nil))) (fun _ _ _ _ _ _ us hl => match us, hl with | [_, _], _ => rfl)) (da_nil)))) (da_cons (de_mkL (da_cons (de_var (pv 5)) (da_cons (de_var (pv 5)) (da_nil)))) (da_nil)))))) (dss_one (ds_ret (de_bl))) (dss_nil)))) (dss_one (ds_if (dt_not (dt_val (de_refLam (n := "InvalidEdit") (k := 6) Mk (c.mono (by decide)) R (LamB.mk (LamX.lamS_by (by rfl)) rfl (fun _ _ _ _ => rfl) (fun _ _ _ _ _ _ _ cl => de_call d_swapped cl (da_cons (de_var (pv 1)) (da_cons (de_var (pv 4)) (da_nil))))) (pv 4)))) (dss_one (ds_ret (de_bl))) (dss_nil))))))
    (dss_one (ds_ret (de_bl)))))
theorem df_l_swaps_right {P : Program} {w : World} {K : PySem.W.Frag} {mg : Str → Option Value} {base : Heap} {ca : Str → Addr} (B : Bl mg) (d_l_drawn_swap : Df P w K mg base "_law_drawn_swap" s_l_drawn_swap 3 ["generator", "page"] F_l_drawn_swap) (d_l_swap_ok : Df P w K mg base "_law_swap_ok" s_l_swap_ok 2 ["page", "value"] F_l_swap_ok) (d_l_behind : Df P w K mg base "_law_behind" s_l_behind 1 ["page", "swap"] F_l_behind) (d_l_same : Df P w K mg base "_law_same" s_l_same 8 ["told", "due"] (F_l_same 8)) (d_swapped : Df P w K mg base "swapped" s_swapped 6 ["grid", "swap"] (F_swapped ca)) (R : RefKit P w K mg base ca) {f : Addr} {fd : FuncData} (F : FunD K "_law_swaps_right" "_law_swaps_right" (defArgs s_l_swaps_right) (defBody s_l_swaps_right) (defScope s_l_swaps_right) [] [] f fd) (hm : mg "_law_swaps_right" = some (.ref f)) (Mt : MakT K mg base "_law_swaps_right") (hcd : fd.code = .ref (He.cT K ("_law_swaps_right", none)).1) : Df P w K mg base "_law_swaps_right" s_l_swaps_right 12 ["generator", "page"] (F_l_swaps_right K ca) :=
  Df_mkC F hm sc_l_swaps_right rfl (fun _ _ _ _ _ _ us hl => match us, hl with | [_, _], _ => rfl) hcd fun A outer s H E c => b_l_swaps_right B d_l_drawn_swap d_l_swap_ok d_l_behind d_l_same d_swapped R (mk_of Mt (mem_TbK (by first | exact .head _ | exact .tail _ (.head _)) (by first | rfl | decide))) c


end K54
/-! M9: refusals; _law_swaps_right. -/
namespace K54
open PySem L2 PyProof.Rows DL GM
theorem sFor_ok {src : DL.Env → RI} {bind : D → DL.Env → Option DL.Env} {body : DL.Env → RS} {ρ ρ1 : DL.Env} {items : List D} {o : RS} (hs : src ρ = .ok items ρ1) (h : forGo bind body items ρ1 = o) : sFor src bind body ρ = o := by
  unfold sFor
  rw [hs]
  exact h
def words : List D := [.str "layout", .str "table", .str "bounds", .str "report", .str "part", .str "number", .str "names", .str "text", .str "lot", .str "weights", .str "lines", .str "margins", .str "edit", .str "unlike", .str "many"]
def kinds (n : Str) : List Bool := exNames.map fun m => decide (n = m)
section
variable {P : Program} {K : PySem.W.Frag} {mg : Str → Option Value} {ca : Str → Addr}
theorem isX_ok (X : Exs P K mg ca) {n m : Str} {d : D} (hn : n ∈ exNames) (hm : m ∈ exNames) : gIsX K (exNames.map ca) (ca m) (excD (ca n) d) = some (.pu (.bool (decide (n = m)))) := by
  show (if ca n ∈ exNames.map ca then (PySem.W.kitOne K (.ref (ca n)) (.ref (ca m))).map fun b => W.pu (.bool b) else none) = _
  rw [if_pos (List.mem_map.mpr ⟨n, hn, rfl⟩), X.kit n hn m hm]
  rfl
theorem caught_ok (X : Exs P K mg ca) {n wd : Str} {d : D} {j : Nat} (hn : n ∈ exNames) (h1 : (kinds n).count true = 1) (h2 : (kinds n).findIdx? id = some j) (h3 : words[j]? = some (.str wd)) : ∃ ρ', g_l_caughtT K ca [none, some (.pu (excD (ca n) d)), none, none, none] = .ret (.pu (.tuple [.str wd, d])) ρ' := by
  have k : ∀ {ρ : DL.Env} {m : Str}, ρ[1]? = some (some (.pu (excD (ca n) d))) → m ∈ exNames → Ev (fOp1 (gIsX K (exNames.map ca) (ca m)) (fVar 1)) ρ (.bool (decide (n = m))) := fun h hm => Ev.op1 (w := .pu (.bool _)) (.var h) (isX_ok X hn hm)
  let B (m : Str) : D := .bool (decide (n = m))
  have r : Rt (g_l_caughtT K ca) [none, some (.pu (excD (ca n) d)), none, none, none] (.tuple [.str wd, d]) := by
    refine Rt.guard (x := false) (Ev.op2 (w := .pu (.bool false)) (.var rfl) .k rfl) (fun z => nomatch z) fun _ => ?_
    refine Rt.seq (Nx.put (Ev.bndA (k := gMkL) (w := .frs [B "InvalidLayout", B "InvalidTable", B "InvalidBounds", B "InvalidReport"]) (.cons (k rfl (by decide)) (.cons (k rfl (by decide)) (.cons (k rfl (by decide)) (.cons (k rfl (by decide)) .nil)))) rfl)) ?_
    refine Rt.seq (Nx.put (Ev.op2 (g := gAdd) (w := .frs [B "InvalidLayout", B "InvalidTable", B "InvalidBounds", B "InvalidReport", B "InvalidPart", B "InvalidNumber", B "InvalidNames", B "InvalidText"]) (.var rfl) (Ev.bndA (k := gMkL) (w := .frs [B "InvalidPart", B "InvalidNumber", B "InvalidNames", B "InvalidText"]) (.cons (k rfl (by decide)) (.cons (k rfl (by decide)) (.cons (k rfl (by decide)) (.cons (k rfl (by decide)) .nil)))) rfl) rfl)) ?_
    refine Rt.seq (Nx.put (Ev.op2 (g := gAdd) (w := .frs [B "InvalidLayout", B "InvalidTable", B "InvalidBounds", B "InvalidReport", B "InvalidPart", B "InvalidNumber", B "InvalidNames", B "InvalidText", B "InvalidLot", B "InvalidWeights", B "InvalidLines", B "InvalidMargins"]) (.var rfl) (Ev.bndA (k := gMkL) (w := .frs [B "InvalidLot", B "InvalidWeights", B "InvalidLines", B "InvalidMargins"]) (.cons (k rfl (by decide)) (.cons (k rfl (by decide)) (.cons (k rfl (by decide)) (.cons (k rfl (by decide)) .nil)))) rfl) rfl)) ?_
    refine Rt.seq (Nx.put (Ev.op2 (g := gAdd) (w := .frs ((kinds n).map .bool)) (.var rfl) (Ev.bndA (k := gMkL) (w := .frs [B "InvalidEdit", B "Unlike", B "TooMany"]) (.cons (k rfl (by decide)) (.cons (k rfl (by decide)) (.cons (k rfl (by decide)) .nil))) rfl) rfl)) ?_
    refine Rt.seq (Nx.put (Ev.bndA (k := gMkL) (w := .frs words) (.cons .k (.cons .k (.cons .k (.cons .k (.cons .k (.cons .k (.cons .k (.cons .k (.cons .k (.cons .k (.cons .k (.cons .k (.cons .k (.cons .k (.cons .k .nil))))))))))))))) rfl)) ?_
    have c : Ev (fOp2 gEq (fOp1 gCntT (fVar 3)) (fC (.int 1))) [none, some (.pu (excD (ca n) d)), none, some (.pu (.list ((kinds n).map .bool))), some (.pu (.list words))] (.bool true) := by
      have z := ev_eqI (ρ := [none, some (.pu (excD (ca n) d)), none, some (.pu (.list ((kinds n).map .bool))), some (.pu (.list words))]) (fa := fOp1 gCntT (fVar 3)) (fb := fC (.int 1)) (i := ((kinds n).count true : Nat)) (j := 1) (Ev.op1 (w := .pu (.int ((kinds n).count true : Nat))) (.var rfl) rfl) .k
      rw [h1] at z
      exact z
    refine .ret (.if c (fun _ => ?_) fun z => nomatch z) rfl
    have e1 : gIdxT (.list ((kinds n).map .bool)) = some (.pu (.int (j : Nat))) := by
      show ((some (kinds n)).bind fun bs => (bs.findIdx? id).map fun j => W.pu (.int j)) = _
      rw [Option.bind_some, h2]
      rfl
    have e2 : gIx (.list words) (.int (j : Nat)) = some (.pu (.str wd)) := by
      show (atI words (j : Int)).map W.pu = _
      rw [atI_nat h3]
      rfl
    have e3 : gVal (exNames.map ca) (excD (ca n) d) = some (.pu d) := by
      show (if ca n ∈ exNames.map ca then some (W.pu d) else none) = _
      rw [if_pos (List.mem_map.mpr ⟨n, hn, rfl⟩)]
    exact Ev.bndA (k := gMkT) (w := .pu (.tuple [.str wd, d])) (.cons (Ev.op2 (w := .pu (.str wd)) (.var rfl) (Ev.op1 (w := .pu (.int (j : Nat))) (.var rfl) e1) e2) (.cons (Ev.op1 (w := .pu d) (.var rfl) e3) .nil)) rfl
  obtain ⟨w, ρ', r1, r2, _⟩ := r
  cases w with
  | pu t => exact ⟨ρ', by rw [r1]; rw [show t = _ from r2]⟩
  | frs t => cases r2
theorem alike_ok {d : D} (h : Rpr d) : Fr F_l_alike [d, d] (.bool true) := by
  obtain ⟨s, hs⟩ := h
  refine fr_of (.ret ?_ rfl)
  exact Ev.op2 (w := .pu (.bool true)) (Ev.bndA (w := .pu (.str s)) (.cons (.var rfl) .nil) hs) (Ev.bndA (w := .pu (.str s)) (.cons (.var rfl) .nil) hs) (by
    show some (W.pu (.bool (decide (s = s)))) = _
    rw [decide_eq_true rfl])
theorem refOk_of (X : Exs P K mg ca) {n wd : Str} {d : D} {j : Nat} (hn : n ∈ exNames) (h1 : (kinds n).count true = 1) (h2 : (kinds n).findIdx? id = some j) (h3 : words[j]? = some (.str wd)) (h : Rpr d) : RefOk K ca n wd d := by
  refine ⟨hn, caught_ok X hn h1 h2 h3, ?_⟩
  have r : Rt g_l_refusedT [none, some (.pu (.str wd)), some (.pu d), some (.pu (.tuple [.str wd, d]))] (.bool true) := by
    refine .ret (.and (x := true) (y := true) ?_ fun _ => .call (.cons (Ev.op2 (w := .pu d) (.var rfl) .k rfl) (.cons (.var rfl) .nil)) (alike_ok h) rfl) rfl
    exact Ev.op2 (w := .pu (.bool true)) (Ev.op2 (w := .pu (.str wd)) (.var rfl) .k rfl) (.var rfl) (by
      show some (W.pu (.bool (decide (wd = wd)))) = _
      rw [decide_eq_true rfl])
  obtain ⟨w, ρ', r1, r2, _⟩ := r
  cases w with
  | pu t => exact ⟨ρ', by rw [r1]; rw [show t = _ from r2]⟩
  | frs t => cases r2
theorem ref_edit (X : Exs P K mg ca) {d : D} (h : Rpr d) : RefOk K ca "InvalidEdit" "edit" d := refOk_of X (j := 12) (by decide) (by decide +kernel) (by decide +kernel) rfl h
theorem ref_table (X : Exs P K mg ca) {d : D} (h : Rpr d) : RefOk K ca "InvalidTable" "table" d := refOk_of X (j := 1) (by decide) (by decide +kernel) (by decide +kernel) rfl h
theorem sm_sw {a b c d : Nat} (ha : a < 1000) (hb : b < 1000) (hc : c < 1000) (hd : d < 1000) : Sm 1 84 (swD a b c d) :=
  Sm.tuple (.cons (a := 20) (.int (by omega) (by omega)) (.cons (a := 20) (.int (by omega) (by omega)) (.cons (a := 20) (.int (by omega) (by omega)) (.cons (a := 20) (.int (by omega) (by omega)) .nil))))
def oddSwaps : List D := [.none, .int 7, .tuple [], .tuple [.int 0, .int 1, .int 0], .list [.int 0, .int 1, .int 0, .int 1], .tuple [.int 0, .int 1, .int 0, .int 1, .int 0], .tuple [.int 0, .int 9, .int 0, .int 1], .tuple [.int (-1), .int 0, .int 0, .int 1], .tuple [.bool false, .bool true, .int 0, .int 1], .tuple [.int 0, .int 1, .int 0, .none], .str "0101", .dict []]
theorem odd_rpr : ∀ d ∈ oddSwaps, Rpr d := by
  have h : ∀ d ∈ oddSwaps, (gRepr [d]).isSome = true := by decide +kernel
  exact fun d hd => Rpr.of (h d hd)
theorem odd_vOk : ∀ d ∈ oddSwaps, vOk d := fun d hd => by
  have h : ∀ d ∈ oddSwaps, dOk d = true ∧ (match d with
    | .tuple ds => SeqAt.shaped (.tuple ds)
    | _ => true) = true := by decide +kernel
  obtain ⟨h1, h2⟩ := h d hd
  exact ⟨h1, fun ds e => by subst e; exact h2⟩
theorem vOk_sw {a b c d : Nat} : vOk (swD a b c d) := ⟨rfl, fun ds e => by cases e; rfl⟩
theorem fRefd_ok {ρ : DL.Env} {i m : Nat} {n wd : Str} {fb : DL.Env → RE} {d : D} (h : ρ[i]? = some (some (.pub m d))) (h1 : fb (pubE ρ) = .err (ca n) d) (h2 : RefOk K ca n wd d) : Ev (fRefd K ca n wd fb i) ρ (.bool true) := by
  unfold Ev fRefd
  rw [h]
  dsimp only
  rw [if_pos ⟨h1, h2⟩]
  exact ⟨_, rfl, rfl⟩
variable {R C : Nat} {g : Grid}
theorem swaps_right_ok (X : Exs P K mg ca) {ds : List D} {m : Nat} (G : Good R C g) (Gn : Gen m ds) (hm : m + 100 < 2 ^ 50) : ∃ ds2, FrO (F_l_swaps_right K ca) ds [gridD g] ds2 (.bool true) ∧ Gen (m + 32) ds2 := by
  have hR := G.R6
  have hC := G.C6
  obtain ⟨es, ρ', h1, h2, h3, ds2, h4, rfl⟩ := evs_lc (src := srcA (fCons (fC (.int 8)) (fNil)) kRng1) (bind := bName 3) (fe := fLend 2 0 F_l_drawn_swap (fCons (fVar 1) (fNil))) (vs := [3]) (ρ := [some (.own 1 ds), some (.pu (gridD g)), none, none, none, none]) (fun i : Nat => .int (i : Nat)) 4 (m + 32) (fun k ρ => ∃ ds, Gen k ds ∧ ρ = [some (.own 1 ds), some (.pu (gridD g)), none, none, none, none]) (fun v => ∃ a b c d : Nat, v = swD a b c d ∧ a < 1000 ∧ b < 1000 ∧ c < 1000 ∧ d < 1000) (List.range 8) m
    (srcA_ok (.cons .k .nil) (rng1 (n := 8) (by decide))) rfl (by rw [List.length_range]; decide) (by rw [List.length_range]; omega) ⟨ds, Gn, rfl⟩ fun j hj k ρ hI hk => by
      obtain ⟨ds, Gn, rfl⟩ := hI
      obtain ⟨a, b, c, d, d2, f1, l1, l2, l3, l4, G2⟩ := drawn_ok Gn (by omega) G
      exact ⟨_, _, swD a b c d, rfl, EvS.lend (t := 1) (ds := ds) (es := [gridD g]) rfl (.cons (.var rfl) .nil) rfl f1, ⟨d2, G2, rfl⟩, a, b, c, d, rfl, by omega, by omega, by omega, by omega⟩
  rw [List.length_range] at h2 h4
  have all : ∀ v ∈ es ++ oddSwaps, vOk v ∧ Rpr v := fun v hv => by
    rcases List.mem_append.mp hv with q | q
    · obtain ⟨a, b, c, d, rfl, l1, l2, l3, l4⟩ := h3 v q
      exact ⟨vOk_sw, (sm_sw l1 l2 l3 l4).rpr (by decide) (by decide)⟩
    · exact ⟨odd_vOk v q, odd_rpr v q⟩
  have p1 : Nx (sPut 2 (fLc (srcA (fCons (fC (.int 8)) (fNil)) kRng1) (bName 3) (fC (.bool true)) (fLend 2 0 F_l_drawn_swap (fCons (fVar 1) (fNil))) [3])) [some (.own 1 ds), some (.pu (gridD g)), none, none, none, none] [some (.own 1 ds2), some (.pu (gridD g)), some (.pu (.list es)), none, none, none] := put_s ⟨_, h1, rfl⟩
  have l20 : es.length + oddSwaps.length ≤ sizeLine := by rw [h2]; decide
  have p2 : ∀ fb, Ev fb [some (.own 1 ds2), some (.pu (gridD g)), some (.pu (.list es)), none, none, none] (.list oddSwaps) → Nx (sPut 2 (fOp2 gAdd (fVar 2) fb)) [some (.own 1 ds2), some (.pu (gridD g)), some (.pu (.list es)), none, none, none] [some (.own 1 ds2), some (.pu (gridD g)), some (.pu (.list (es ++ oddSwaps))), none, none, none] := fun fb hb => Nx.put (Ev.op2 (w := .frs (es ++ oddSwaps)) (.var rfl) hb (by
    show (if es.length + oddSwaps.length ≤ sizeLine then some (W.frs (es ++ oddSwaps)) else none) = _
    rw [if_pos l20]))
  have key := for_inv (bind := bName 4) (body := sIf (fCall 2 F_l_swap_ok (fCons (fVar 1) (fCons (fVar 4) (fNil)))) (sSeq (sPut 5 (fCall 2 F_l_behind (fCons (fVar 1) (fCons (fVar 4) (fNil))))) (sIf (fNot (fCall 2 (F_l_same 8) (fCons (bndA (fCons (fCall 2 (F_swapped ca) (fCons (fVar 1) (fCons (fVar 4) (fNil)))) (fCons (fCallG 2 (pick .none [1, 0]) (F_swapped ca) (fCons (fVar 4) (fCons (fVar 1) (fNil)))) (fNil))) gMkL) (fCons (bndA (fCons (fVar 5) (fCons (fVar 5) (fNil))) gMkL) (fNil))))) (sRet (fC (.bool false))) (.nx))) (sIf (fNot (fRefd K ca "InvalidEdit" "edit" (fCall 2 (F_swapped ca) (fCons (fVar 1) (fCons (fVar 4) (fNil)))) 4)) (sRet (fC (.bool false))) (.nx)))
    (fun items ρ => ∃ x4 x5, isPub x4 ∧ isPub x5 ∧ ρ = [some (.own 1 ds2), some (.pu (gridD g)), some (.pu (.list (es ++ oddSwaps))), none, x4, x5] ∧ ∀ v ∈ items, vOk v ∧ Rpr v)
    (fun o => ∃ x4 x5, isPub x4 ∧ isPub x5 ∧ o = .nx [some (.own 1 ds2), some (.pu (gridD g)), some (.pu (.list (es ++ oddSwaps))), none, x4, x5]) (es ++ oddSwaps) [some (.own 1 ds2), some (.pu (gridD g)), some (.pu (.list (es ++ oddSwaps))), none, none, none] ⟨none, none, (fun _ _ z => nomatch z), (fun _ _ z => nomatch z), rfl, all⟩
    (fun v r ρ hJ => by
      obtain ⟨x4, x5, q4, q5, rfl, ok⟩ := hJ
      obtain ⟨o1, o2⟩ := ok v List.mem_cons_self
      refine ⟨_, rfl, .inl ?_⟩
      have es1 := fr_l_swap_ok G o1
      cases q : swB R C g v with
      | true =>
        rw [q] at es1
        obtain ⟨a, b, c, d, rfl, sw, _⟩ := swB_nat2 q
        refine ⟨[some (.own 1 ds2), some (.pu (gridD g)), some (.pu (.list (es ++ oddSwaps))), none, some (.pu (swD a b c d)), some (.pu (gridD (beh g a b c d)))], ?_, some (.pu (swD a b c d)), some (.pu (gridD (beh g a b c d))), (fun _ _ z => nomatch z), (fun _ _ z => nomatch z), rfl, fun y hy => ok y (List.mem_cons_of_mem _ hy)⟩
        refine Nx.if (x := true) (.call (.cons (.var rfl) (.cons (.var rfl) .nil)) es1 rfl) (fun _ => ?_) fun z => nomatch z
        refine Nx.seq (Nx.put (Ev.call (d := gridD (beh g a b c d)) (.cons (.var rfl) (.cons (.var rfl) .nil)) (fr_l_behind G sw).fr rfl)) (Nx.if (x := false) (.not (x := true) ?_) (fun z => nomatch z) fun _ => .nx)
        have s8 : Fr (F_l_same 8) [.list [gridD (beh g a b c d), gridD (beh g a b c d)], .list [gridD (beh g a b c d), gridD (beh g a b c d)]] (.bool true) := same_list 7 (by show 2 ≤ 1000; decide) fun y hy => by
          have e : y = gridD (beh g a b c d) := by
            simp only [List.mem_cons, List.not_mem_nil, or_false, or_self] at hy
            exact hy
          rw [e]; exact same_grid 4 (G.beh sw)
        refine Ev.call (.cons (Ev.bndA (k := gMkL) (w := .frs [gridD (beh g a b c d), gridD (beh g a b c d)]) (.cons (.call (.cons (.var rfl) (.cons (.var rfl) .nil)) (fr_swapped G sw).fr rfl) (.cons (.callG (.cons (.var rfl) (.cons (.var rfl) .nil)) (fr_swapped G sw).fr rfl) .nil)) rfl) (.cons (Ev.bndA (k := gMkL) (w := .frs [gridD (beh g a b c d), gridD (beh g a b c d)]) (.cons (.var rfl) (.cons (.var rfl) .nil)) rfl) .nil)) s8 rfl
      | false =>
        rw [q] at es1
        refine ⟨[some (.own 1 ds2), some (.pu (gridD g)), some (.pu (.list (es ++ oddSwaps))), none, some (.pu v), x5], ?_, some (.pu v), x5, (fun _ _ z => nomatch z), q5, rfl, fun y hy => ok y (List.mem_cons_of_mem _ hy)⟩
        refine Nx.if (x := false) (.call (.cons (.var rfl) (.cons (.var rfl) .nil)) es1 rfl) (fun z => nomatch z) fun _ => ?_
        exact Nx.if (x := false) (.not (x := true) (fRefd_ok (m := 0) (d := v) rfl (callE (.cons (.var rfl) (.cons (.var rfl) .nil)) (fr_swapped_no G o1 q) rfl) (ref_edit X o2))) (fun z => nomatch z) fun _ => .nx)
    fun ρ hJ => by
      obtain ⟨x4, x5, q4, q5, rfl, _⟩ := hJ
      exact ⟨x4, x5, q4, q5, rfl⟩
  obtain ⟨x4, x5, q4, q5, hz⟩ := key
  have c : colE [some (.own 1 ds2), some (.pu (gridD g)), some (.pu (.list (es ++ oddSwaps))), none, x4, x5] = [(1, ds2)] := colE_own (t := 0) (colE_pubs fun o ho t ds => by
    simp only [List.mem_cons, List.not_mem_nil, or_false] at ho
    rcases ho with rfl | rfl | rfl | rfl | rfl
    · exact fun z => nomatch z
    · exact fun z => nomatch z
    · exact fun z => nomatch z
    · exact q4 t ds
    · exact q5 t ds)
  refine ⟨ds2, frO_of (w := .pu (.bool true)) (ρ' := [some (.own 1 ds2), some (.pu (gridD g)), some (.pu (.list (es ++ oddSwaps))), none, x4, x5]) ?_ rfl c, h4⟩
  show g_l_swaps_right K ca [some (.own 1 ds), some (.pu (gridD g)), none, none, none, none] = _
  unfold g_l_swaps_right
  rw [seq_nx p1, seq_nx (p2 _ (Ev.bndA (k := gMkL) (w := .frs oddSwaps) (.cons .k (.cons .k (.cons (Ev.bndA (k := gMkT) (w := .pu (.tuple [])) .nil rfl) (.cons (Ev.bndA (k := gMkT) (w := .pu (.tuple [.int 0, .int 1, .int 0])) (.cons .k (.cons .k (.cons .k .nil))) rfl) (.cons (Ev.bndA (k := gMkL) (w := .frs [.int 0, .int 1, .int 0, .int 1]) (.cons .k (.cons .k (.cons .k (.cons .k .nil)))) rfl) (.cons (Ev.bndA (k := gMkT) (w := .pu (.tuple [.int 0, .int 1, .int 0, .int 1, .int 0])) (.cons .k (.cons .k (.cons .k (.cons .k (.cons .k .nil))))) rfl) (.cons (Ev.bndA (k := gMkT) (w := .pu (.tuple [.int 0, .int 9, .int 0, .int 1])) (.cons .k (.cons .k (.cons .k (.cons .k .nil)))) rfl) (.cons (Ev.bndA (k := gMkT) (w := .pu (.tuple [.int (-1), .int 0, .int 0, .int 1])) (.cons (ev_subI .k .k) (.cons .k (.cons .k (.cons .k .nil)))) rfl) (.cons (Ev.bndA (k := gMkT) (w := .pu (.tuple [.bool false, .bool true, .int 0, .int 1])) (.cons .k (.cons .k (.cons .k (.cons .k .nil)))) rfl) (.cons (Ev.bndA (k := gMkT) (w := .pu (.tuple [.int 0, .int 1, .int 0, .none])) (.cons .k (.cons .k (.cons .k (.cons .k .nil)))) rfl) (.cons .k (.cons (show Ev fDict0 _ (.dict []) from ⟨_, rfl, rfl⟩) .nil)))))))))))) rfl))]
  rw [seq_nx (sFor_ok (srcE_ok (.var (m := 0) (d := .list (es ++ oddSwaps)) rfl) rfl) hz)]
  rfl
end
end K54
/-! M10: _law_pair_right. -/
namespace K54
open PySem L2 PyProof.Rows DL GM
def pA (ca : Str → Addr) : DL.Env → RS := (sSeq (sPut 5 (fOp2 gEq (fCall 1 F_l_margins (fCons (fVar 1) (fNil))) (fCall 1 F_l_margins (fCons (fVar 2) (fNil))))) (sSeq (sIf (fOr (fOp2 gNe (fOp2 gNotN (fVar 4) (fC .none)) (fVar 5)) (fAnd (fOp2 gNotN (fVar 4) (fC .none)) (fNot (fCall 3 F_l_are_swaps (fCons (fVar 1) (fCons (fVar 2) (fCons (fVar 4) (fNil)))))))) (sRet (fC (.bool false))) (.nx)) (sSeq (sPut 6 (bndA (fCons (fVar 4) (fCons (bndA (fNil) gMkL) (fCons (bndA (fCons (fLend 2 0 F_l_drawn_swap (fCons (fVar 1) (fNil))) (fNil)) gMkL) (fCons (fC .none) (fCons (fC (.int 7)) (fCons (fDict0) (fCons (bndA (fNil) gMkT) (fCons (bndA (fCons (fC .none) (fNil)) gMkL) (fNil))))))))) gMkL)) (sSeq (sIf (fOp2 gNotN (fVar 4) (fC .none)) (sPut 6 (fOp2 gAdd (fVar 6) (bndA (fCons (fOp1 gRev (fVar 4)) (fCons (fOp2 gAdd (fVar 4) (fOp1 (gCut none (some 1)) (fVar 4))) (fCons (fOp1 (gCut (some 1) none) (fVar 4)) (fCons (bndA (fCons (fVar 4) (fNil)) gTupleOf) (fCons (fLc (srcE (fVar 4) itemsL) (bName 7) (fC (.bool true)) (bndA (fCons (fVar 7) (fNil)) gListOf) [7]) (fNil)))))) gMkL))) (.nx)) (sSeq (sFor (srcE (fVar 6) itemsL) (bName 8) (sSeq (sPut 9 (fCall 3 F_l_are_swaps (fCons (fVar 1) (fCons (fVar 2) (fCons (fVar 8) (fNil)))))) (sIf (fNot (fCall 2 (F_l_same 8) (fCons (bndA (fCons (fCall 3 (F_are_swaps_between ca) (fCons (fVar 1) (fCons (fVar 2) (fCons (fVar 8) (fNil))))) (fCons (fCallG 3 (pick .none [2, 1, 0]) (F_are_swaps_between ca) (fCons (fVar 8) (fCons (fVar 2) (fCons (fVar 1) (fNil))))) (fNil))) gMkL) (fCons (bndA (fCons (fVar 9) (fCons (fVar 9) (fNil))) gMkL) (fNil))))) (sRet (fC (.bool false))) (.nx)))) (sPut 10 (bndA (fCons (fVar 4) (fNil)) gRepr)))))))
def pB (ca : Str → Addr) : DL.Env → RS := (sSeq (sIf (fNotNO 4) (sApp 4 (fC (.int 7))) (.nx)) (sRet (fAnd (fOp2 gEq (bndA (fCons (fCallG 2 (pick .none [1, 0]) (F_swaps_between ca) (fCons (fVar 2) (fCons (fVar 1) (fNil)))) (fNil)) gRepr) (fVar 10)) (fOp2 gEq (bndA (fCons (bndA (fCons (fVar 1) (fCons (fVar 2) (fNil))) gMkL) (fNil)) gRepr) (fVar 3)))))
def pP (ca : Str → Addr) : DL.Env → RS := (sPar 3 4 (bndA (fCons (bndA (fCons (fVar 1) (fCons (fVar 2) (fNil))) gMkL) (fNil)) gRepr) (fCall 2 (F_swaps_between ca) (fCons (fVar 1) (fCons (fVar 2) (fNil)))))
theorem pair_eq (ca : Str → Addr) : g_l_pair_right ca = sSeq (pP ca) (sStretch 4 (pA ca) (pB ca)) := rfl
theorem mem_tot : ∀ {g : Grid} {r : List Int} {x : Int}, r ∈ g → x ∈ r → x.toNat ≤ tot g := by
  have h1 : ∀ {r : List Int} {x : Int}, x ∈ r → x.toNat ≤ tot1 r := by
    intro r
    induction r with
    | nil => intro x hx; cases hx
    | cons y r ih =>
      intro x hx
      unfold tot1 at ih ⊢
      simp only [List.map_cons, List.sum_cons]
      rcases List.mem_cons.mp hx with e | e
      · rw [e]; omega
      · have := ih e; omega
  intro g
  induction g with
  | nil => intro r x hr; cases hr
  | cons s g ih =>
    intro r x hr hx
    unfold tot at ih ⊢
    simp only [List.map_cons, List.sum_cons]
    rcases List.mem_cons.mp hr with e | e
    · have := h1 (e ▸ hx); omega
    · have := ih e hx; omega
theorem sm_grid {R C : Nat} {g : Grid} (G : Good R C g) (ht : tot g ≤ 1000) : Sm 2 762 (gridD g) := by
  have h : Sms 1 (127 * g.length) (g.map rowD) := Sms.map (a := 126) fun r hr => by
    have q : Sms 0 (21 * r.length) (r.map .int) := Sms.map (a := 20) fun x hx => by
      have h0 := G.n.mem r hr x hx
      have h1 := mem_tot hr hx
      exact Sm.int h0 (by omega)
    have hl := G.G.row r hr
    have := G.C6
    exact (Sm.list q).mono (Nat.le_refl _) (by omega)
  have := G.R6
  have hg := G.G.len
  exact (Sm.list h).mono (Nat.le_refl _) (by omega)
theorem sm_pair {R C : Nat} {g h : Grid} (G : Good R C g) (H : Good R C h) (hg : tot g ≤ 1000) (hh : tot h ≤ 1000) : Rpr (.list [gridD g, gridD h]) :=
  (Sm.list (.cons (sm_grid G hg) (.cons (sm_grid H hh) .nil))).rpr (by decide) (by decide)
theorem path_mem {R C : Nat} {g h : Grid} {l : List Sw} (p : Path R C g l h) : ∀ s ∈ l, s.1 < R ∧ s.2.1 < R ∧ s.2.2.1 < C ∧ s.2.2.2 < C := by
  induction p with
  | nil g => exact fun s hs => absurd hs (by simp)
  | cons sw p ih =>
    intro s hs
    rcases List.mem_cons.mp hs with e | e
    · rw [e]; exact ⟨sw.1, sw.2.1, sw.2.2.1, sw.2.2.2.1⟩
    · exact ih s e
theorem cut_mem {ds : List D} {lo hi : Option Int} {x : D} (h : x ∈ DL.cutD ds lo hi) : x ∈ ds := List.mem_of_mem_drop (List.mem_of_mem_take h)
theorem cut_len {ds : List D} {lo hi : Option Int} : (DL.cutD ds lo hi).length ≤ ds.length := by
  unfold DL.cutD
  rw [List.length_take, List.length_drop]
  omega
theorem noLs_sw : ∀ l : List Sw, noLs (l.map sD) = true
  | [] => rfl
  | s :: l => by
    rw [List.map_cons, noLs, noLs_sw l]
    rfl
/-- what is known of the told swaps -/
structure Told (R C : Nat) (g h : Grid) (ca : Str → Addr) (TD : D) : Prop where
  fr : Fr (F_swaps_between ca) [gridD g, gridD h] TD
  nn : (!isNone TD) = sameM C g h
  vb : isNone TD = false → valB R C g h TD = true
  lst : TD = .none ∨ ∃ l : List Sw, TD = .list (l.map sD) ∧ l.length ≤ 1000
  rp : Rpr TD
theorem valOk_list {ds : List D} (h : ∀ x ∈ ds, vOk x) : valOk (.list ds) := ⟨rfl, fun vs e x hx => by cases e; exact h x hx⟩
theorem vOk_list {ds : List D} : vOk (.list ds) := ⟨rfl, fun vs e => nomatch e⟩
theorem vOk_none : vOk .none := ⟨rfl, fun vs e => nomatch e⟩
theorem ev_notN {ρ : DL.Env} {fa : DL.Env → RE} {d : D} (ha : Ev fa ρ d) : Ev (fOp2 gNotN fa (fC .none)) ρ (.bool (!isNone d)) := Ev.op2 (w := .pu (.bool (!isNone d))) ha .k rfl
theorem ne_bool {a b : Bool} (h : a = b) : gNe (.bool a) (.bool b) = some (.pu (.bool false)) := by
  subst h
  cases a <;> rfl
section
variable {R C : Nat} {g h : Grid} {ca : Str → Addr} {TD : D}
theorem pA_ok (G : Good R C g) (H : Good R C h) (T : Told R C g h ca TD) {ds : List D} {m : Nat} (Gn : Gen m ds) (hm : m + 10 < 2 ^ 50) {k mt : Nat} {kp : D} : ∃ (ds2 : List D) (x6 x8 x9 : Option Sl) (cp : Str), isPub x6 ∧ isPub x8 ∧ isPub x9 ∧ Gen (m + 4) ds2 ∧ gRepr [TD] = some (.pu (.str cp)) ∧
    Nx (pA ca) [some (.own 1 ds), some (.pub k (gridD g)), some (.pub k (gridD h)), some (.pub k kp), some (.pub mt TD), none, none, none, none, none, none] [some (.own 1 ds2), some (.pub k (gridD g)), some (.pub k (gridD h)), some (.pub k kp), some (.pub mt TD), some (.pu (.bool (sameM C g h))), x6, none, x8, x9, some (.pu (.str cp))] := by
  have pubX : ∀ d : D, isPub (some (.pu d)) := fun d _ _ z => nomatch z
  obtain ⟨cp, hcp⟩ := T.rp
  obtain ⟨a, b, c, d, ds2, f1, _, _, _, _, G2⟩ := drawn_ok Gn (by omega) G
  let E (ds : List D) (x5 x6 x8 x9 x10 : Option Sl) : DL.Env := [some (.own 1 ds), some (.pub k (gridD g)), some (.pub k (gridD h)), some (.pub k kp), some (.pub mt TD), x5, x6, none, x8, x9, x10]
  let al : Option Sl := some (.pu (.bool (sameM C g h)))
  have s1 : Nx (sPut 5 (fOp2 gEq (fCall 1 F_l_margins (fCons (fVar 1) (fNil))) (fCall 1 F_l_margins (fCons (fVar 2) (fNil))))) (E ds none none none none none) (E ds al none none none none) := Nx.put (Ev.op2 (w := .pu (.bool (sameM C g h))) (.call (.cons (.var rfl) .nil) (fr_l_margins G) rfl) (.call (.cons (.var rfl) .nil) (fr_l_margins H) rfl) (eq_marg C g h))
  have okT : valOk TD := by
    rcases T.lst with e | ⟨l, e, _⟩
    · rw [e]; exact ⟨rfl, fun vs e => nomatch e⟩
    · rw [e]
      exact valOk_list fun x hx => by
        obtain ⟨s, _, rfl⟩ := List.mem_map.mp hx
        exact vOk_sw
  have s2 : Nx (sIf (fOr (fOp2 gNe (fOp2 gNotN (fVar 4) (fC .none)) (fVar 5)) (fAnd (fOp2 gNotN (fVar 4) (fC .none)) (fNot (fCall 3 F_l_are_swaps (fCons (fVar 1) (fCons (fVar 2) (fCons (fVar 4) (fNil)))))))) (sRet (fC (.bool false))) (.nx)) (E ds al none none none none) (E ds al none none none none) := by
    refine Nx.if (x := false) ?_ (fun z => nomatch z) fun _ => .nx
    refine Ev.or (x := false) (y := false) (Ev.op2 (w := .pu (.bool false)) (ev_notN (d := TD) (.var rfl)) (.var rfl) (ne_bool T.nn)) fun _ => ?_
    have z := Ev.and (x := !isNone TD) (y := false) (ρ := E ds al none none none none) (fa := fOp2 gNotN (fVar 4) (fC .none)) (fb := fNot (fCall 3 F_l_are_swaps (fCons (fVar 1) (fCons (fVar 2) (fCons (fVar 4) (fNil)))))) (ev_notN (d := TD) (.var rfl)) fun e => by
      have q := fr_l_are_swaps G H okT
      rw [T.vb (by simpa using e)] at q
      exact .not (x := true) (.call (.cons (.var rfl) (.cons (.var rfl) (.cons (.var rfl) .nil))) q rfl)
    rw [Bool.and_false] at z
    exact z
  let V1 : List D := [TD, .list [], .list [swD a b c d], .none, .int 7, .dict [], .tuple [], .list [.none]]
  have s3 : Nx (sPut 6 (bndA (fCons (fVar 4) (fCons (bndA (fNil) gMkL) (fCons (bndA (fCons (fLend 2 0 F_l_drawn_swap (fCons (fVar 1) (fNil))) (fNil)) gMkL) (fCons (fC .none) (fCons (fC (.int 7)) (fCons (fDict0) (fCons (bndA (fNil) gMkT) (fCons (bndA (fCons (fC .none) (fNil)) gMkL) (fNil))))))))) gMkL)) (E ds al none none none none) (E ds2 al (some (.pu (.list V1))) none none none) := by
    refine put_s (ρ' := E ds2 al none none none none) ?_
    refine EvS.bndA (k := gMkL) (w := .frs V1) (EvLS.cons (Ev.s (.var rfl)) (EvLS.cons (Ev.s (Ev.bndA (w := .frs []) .nil rfl)) (EvLS.cons (ρ1 := E ds2 al none none none none) (EvS.bndA (k := gMkL) (w := .frs [swD a b c d]) (EvLS.cons (EvS.lend (t := 1) (ds := ds) (es := [gridD g]) rfl (.cons (.var rfl) .nil) rfl f1) .nil) rfl) (EvLS.cons (Ev.s .k) (EvLS.cons (Ev.s .k) (EvLS.cons (Ev.s (show Ev fDict0 _ (.dict []) from ⟨_, rfl, rfl⟩)) (EvLS.cons (Ev.s (Ev.bndA (w := .pu (.tuple [])) .nil rfl)) (EvLS.cons (Ev.s (Ev.bndA (w := .frs [.none]) (.cons .k .nil) rfl)) .nil)))))))) rfl
  have okV1 : ∀ v ∈ V1, valOk v := fun v hv => by
    simp only [V1, List.mem_cons, List.not_mem_nil, or_false] at hv
    rcases hv with rfl | rfl | rfl | rfl | rfl | rfl | rfl | rfl
    · exact okT
    · exact valOk_list fun x hx => absurd hx (by simp)
    · exact valOk_list fun x hx => by rw [List.mem_singleton.mp hx]; exact vOk_sw
    · exact ⟨rfl, fun vs e => nomatch e⟩
    · exact ⟨rfl, fun vs e => nomatch e⟩
    · exact ⟨rfl, fun vs e => nomatch e⟩
    · exact ⟨rfl, fun vs e => nomatch e⟩
    · exact valOk_list fun x hx => by rw [List.mem_singleton.mp hx]; exact vOk_none
  have s4 : ∃ V : List D, (∀ v ∈ V, valOk v) ∧ Nx (sIf (fOp2 gNotN (fVar 4) (fC .none)) (sPut 6 (fOp2 gAdd (fVar 6) (bndA (fCons (fOp1 gRev (fVar 4)) (fCons (fOp2 gAdd (fVar 4) (fOp1 (gCut none (some 1)) (fVar 4))) (fCons (fOp1 (gCut (some 1) none) (fVar 4)) (fCons (bndA (fCons (fVar 4) (fNil)) gTupleOf) (fCons (fLc (srcE (fVar 4) itemsL) (bName 7) (fC (.bool true)) (bndA (fCons (fVar 7) (fNil)) gListOf) [7]) (fNil)))))) gMkL))) (.nx)) (E ds2 al (some (.pu (.list V1))) none none none) (E ds2 al (some (.pu (.list V))) none none none) := by
    rcases T.lst with e | ⟨l, e, hl⟩
    · refine ⟨V1, okV1, Nx.if (x := false) ?_ (fun z => nomatch z) fun _ => .nx⟩
      have z := ev_notN (fa := fVar 4) (ρ := E ds2 al (some (.pu (.list V1))) none none none) (d := TD) (.var rfl)
      rw [show (!isNone TD) = false from by rw [e]; rfl] at z
      exact z
    · have s : 3000 ≤ sizeLine := by decide
      let LT : List D := l.map sD
      have hLT : LT.length ≤ 1000 := by
        show (l.map sD).length ≤ 1000
        rw [List.length_map]; exact hl
      let V2 : List D := [.list LT.reverse, .list (LT ++ DL.cutD LT none (some 1)), .list (DL.cutD LT (some 1) none), .tuple LT, .list (l.map fun s : Sw => .list [.int (s.1 : Nat), .int (s.2.1 : Nat), .int (s.2.2.1 : Nat), .int (s.2.2.2 : Nat)])]
      have okL : ∀ x ∈ LT, vOk x := fun x hx => by
        obtain ⟨s, _, rfl⟩ := List.mem_map.mp hx
        exact vOk_sw
      refine ⟨V1 ++ V2, fun v hv => ?_, Nx.if (x := true) ?_ (fun _ => Nx.put ?_) fun z => nomatch z⟩
      · rcases List.mem_append.mp hv with q | q
        · exact okV1 v q
        · simp only [V2, List.mem_cons, List.not_mem_nil, or_false] at q
          rcases q with rfl | rfl | rfl | rfl | rfl
          · exact valOk_list fun x hx => okL x (List.mem_reverse.mp hx)
          · exact valOk_list fun x hx => (List.mem_append.mp hx).elim (okL x) fun z => okL x (cut_mem z)
          · exact valOk_list fun x hx => okL x (cut_mem hx)
          · exact ⟨rfl, fun vs e => nomatch e⟩
          · exact valOk_list fun x hx => by
              obtain ⟨s, _, rfl⟩ := List.mem_map.mp hx
              exact vOk_list
      · have z := ev_notN (fa := fVar 4) (ρ := E ds2 al (some (.pu (.list V1))) none none none) (d := TD) (.var rfl)
        rw [show (!isNone TD) = true from by rw [e]; rfl] at z
        exact z
      · have v4 : Ev (fVar 4) (E ds2 al (some (.pu (.list V1))) none none none) (.list LT) := by
          have q : ∀ X, TD = X → Ev (fVar 4) (E ds2 al (some (.pu (.list V1))) none none none) X := fun X hX => by
            subst hX
            exact .var rfl
          exact q _ e
        have lc : Evl (fLc (srcE (fVar 4) itemsL) (bName 7) (fC (.bool true)) (bndA (fCons (fVar 7) (fNil)) gListOf) [7]) (E ds2 al (some (.pu (.list V1))) none none none) (l.map fun s : Sw => .list [.int (s.1 : Nat), .int (s.2.1 : Nat), .int (s.2.2.1 : Nat), .int (s.2.2.2 : Nat)]) :=
          evl_map sD (fun s : Sw => .list [.int (s.1 : Nat), .int (s.2.1 : Nat), .int (s.2.2.1 : Nat), .int (s.2.2.2 : Nat)]) l (srcE_ok v4 rfl) rfl (by omega) fun x hx => ⟨_, rfl, Ev.bndA (k := gListOf) (w := .frs [.int (x.1 : Nat), .int (x.2.1 : Nat), .int (x.2.2.1 : Nat), .int (x.2.2.2 : Nat)]) (.cons (.var rfl) .nil) rfl, rfl⟩
        have hc : (DL.cutD LT none (some 1)).length ≤ 1000 := Nat.le_trans cut_len hLT
        refine Ev.op2 (w := .frs (V1 ++ V2)) (.var rfl) (Ev.bndA (k := gMkL) (w := .frs V2) (.cons (Ev.op1 (w := .frs LT.reverse) v4 rfl) (.cons (Ev.op2 (w := .frs (LT ++ DL.cutD LT none (some 1))) v4 (Ev.op1 (w := .frs (DL.cutD LT none (some 1))) v4 rfl) ?_) (.cons (Ev.op1 (w := .frs (DL.cutD LT (some 1) none)) v4 rfl) (.cons (Ev.bndA (w := .pu (.tuple LT)) (.cons v4 .nil) rfl) (.cons lc.ev .nil))))) rfl) rfl
        show (if LT.length + (DL.cutD LT none (some 1)).length ≤ sizeLine then some (W.frs (LT ++ DL.cutD LT none (some 1))) else none) = _
        rw [if_pos (by omega)]
  obtain ⟨V, okV, s4⟩ := s4
  let bd : DL.Env → RS := sSeq (sPut 9 (fCall 3 F_l_are_swaps (fCons (fVar 1) (fCons (fVar 2) (fCons (fVar 8) (fNil)))))) (sIf (fNot (fCall 2 (F_l_same 8) (fCons (bndA (fCons (fCall 3 (F_are_swaps_between ca) (fCons (fVar 1) (fCons (fVar 2) (fCons (fVar 8) (fNil))))) (fCons (fCallG 3 (pick .none [2, 1, 0]) (F_are_swaps_between ca) (fCons (fVar 8) (fCons (fVar 2) (fCons (fVar 1) (fNil))))) (fNil))) gMkL) (fCons (bndA (fCons (fVar 9) (fCons (fVar 9) (fNil))) gMkL) (fNil))))) (sRet (fC (.bool false))) (.nx))
  have s5 : ∃ x8 x9, isPub x8 ∧ isPub x9 ∧ forGo (bName 8) bd V (E ds2 al (some (.pu (.list V))) none none none) = .nx (E ds2 al (some (.pu (.list V))) x8 x9 none) :=
    for_inv (bind := bName 8) (body := bd) (fun items ρ => ∃ x8 x9, isPub x8 ∧ isPub x9 ∧ ρ = E ds2 al (some (.pu (.list V))) x8 x9 none ∧ ∀ v ∈ items, valOk v) (fun o => ∃ x8 x9, isPub x8 ∧ isPub x9 ∧ o = .nx (E ds2 al (some (.pu (.list V))) x8 x9 none)) V _ ⟨none, none, (fun _ _ z => nomatch z), (fun _ _ z => nomatch z), rfl, okV⟩
      (fun v r ρ hJ => by
        obtain ⟨x8, x9, q8, q9, rfl, ok⟩ := hJ
        have o := ok v List.mem_cons_self
        refine ⟨E ds2 al (some (.pu (.list V))) (some (.pu v)) x9 none, rfl, .inl ⟨E ds2 al (some (.pu (.list V))) (some (.pu v)) (some (.pu (.bool (valB R C g h v)))) none, ?_, some (.pu v), some (.pu (.bool (valB R C g h v))), pubX _, pubX _, rfl, fun y hy => ok y (List.mem_cons_of_mem _ hy)⟩⟩
        refine Nx.seq (Nx.put (Ev.call (d := .bool (valB R C g h v)) (.cons (.var rfl) (.cons (.var rfl) (.cons (.var rfl) .nil))) (fr_l_are_swaps G H o) rfl)) (Nx.if (x := false) (.not (x := true) ?_) (fun z => nomatch z) fun _ => .nx)
        have s8 : Fr (F_l_same 8) [.list [.bool (valB R C g h v), .bool (valB R C g h v)], .list [.bool (valB R C g h v), .bool (valB R C g h v)]] (.bool true) := same_list 7 (by show 2 ≤ 1000; decide) fun y hy => by
          have e : y = .bool (valB R C g h v) := by
            simp only [List.mem_cons, List.not_mem_nil, or_false, or_self] at hy
            exact hy
          rw [e]; exact same_bool 6 _
        exact Ev.call (.cons (Ev.bndA (k := gMkL) (w := .frs [.bool (valB R C g h v), .bool (valB R C g h v)]) (.cons (.call (.cons (.var rfl) (.cons (.var rfl) (.cons (.var rfl) .nil))) (fr_are_swaps_between G H o) rfl) (.cons (.callG (.cons (.var rfl) (.cons (.var rfl) (.cons (.var rfl) .nil))) (fr_are_swaps_between G H o) rfl) .nil)) rfl) (.cons (Ev.bndA (k := gMkL) (w := .frs [.bool (valB R C g h v), .bool (valB R C g h v)]) (.cons (.var rfl) (.cons (.var rfl) .nil)) rfl) .nil)) s8 rfl)
      fun ρ hJ => by
        obtain ⟨x8, x9, q8, q9, rfl, _⟩ := hJ
        exact ⟨x8, x9, q8, q9, rfl⟩
  obtain ⟨x8, x9, q8, q9, s5⟩ := s5
  refine ⟨ds2, some (.pu (.list V)), x8, x9, cp, pubX _, q8, q9, G2, hcp, ?_⟩
  exact Nx.seq s1 (Nx.seq s2 (Nx.seq s3 (Nx.seq s4 (Nx.seq (sFor_ok (srcE_ok (.var (m := 0) (d := .list V) rfl) rfl) s5) (Nx.put (Ev.bndA (w := .pu (.str cp)) (.cons (.var rfl) .nil) hcp))))))
theorem eq_str (s : Str) : gEq (.str s) (.str s) = some (.pu (.bool true)) := by
  show some (W.pu (.bool (decide (s = s)))) = _
  rw [decide_eq_true rfl]
/-- what follows the stretch -/
theorem pB_ok (T : Fr (F_swaps_between ca) [gridD g, gridD h] TD) {gs x4 x4' : Option Sl} {x5 x6 x7 x8 x9 : Option Sl} {kp cp : Str} (hk : gRepr [.list [gridD g, gridD h]] = some (.pu (.str kp))) (hc : gRepr [TD] = some (.pu (.str cp)))
    (h4 : Nx (sIf (fNotNO 4) (sApp 4 (fC (.int 7))) (.nx)) [gs, some (.pu (gridD g)), some (.pu (gridD h)), some (.pu (.str kp)), x4, x5, x6, x7, x8, x9, some (.pu (.str cp))] [gs, some (.pu (gridD g)), some (.pu (gridD h)), some (.pu (.str kp)), x4', x5, x6, x7, x8, x9, some (.pu (.str cp))]) :
    ∃ w, pB ca [gs, some (.pu (gridD g)), some (.pu (gridD h)), some (.pu (.str kp)), x4, x5, x6, x7, x8, x9, some (.pu (.str cp))] = .ret w [gs, some (.pu (gridD g)), some (.pu (gridD h)), some (.pu (.str kp)), x4', x5, x6, x7, x8, x9, some (.pu (.str cp))] ∧ w.d = .bool true := by
  unfold pB
  rw [seq_nx h4]
  refine ret_s (Ev.s (.and (x := true) (y := true) ?_ fun _ => ?_))
  · exact Ev.op2 (w := .pu (.bool true)) (Ev.bndA (w := .pu (.str cp)) (.cons (.callG (.cons (.var rfl) (.cons (.var rfl) .nil)) T rfl) .nil) hc) (.var rfl) (eq_str cp)
  · exact Ev.op2 (w := .pu (.bool true)) (Ev.bndA (w := .pu (.str kp)) (.cons (Ev.bndA (k := gMkL) (w := .frs [gridD g, gridD h]) (.cons (.var rfl) (.cons (.var rfl) .nil)) rfl) .nil) hk) (.var rfl) (eq_str kp)
theorem stretch_own {i : Nat} {gA gB : DL.Env → RS} {ρ ρ1 : DL.Env} {ds es : List D} (h : ρ[i]? = some (some (.own 0 ds))) (hn : noN ρ = true) (hA : Nx gA (lendE i ds ρ) ρ1) (h1 : ρ1[i]? = some (some (.pub 2 (.list es)))) (hl : noLs es = true) : sStretch i gA gB ρ = gB (backE i es ρ1) := by
  unfold sStretch
  rw [h]
  show (if noN ρ = true then _ else RS.st) = _
  rw [if_pos hn, show gA (lendE i ds ρ) = RS.nx ρ1 from hA]
  dsimp only
  rw [h1]
  show (if noLs es = true then gB (backE i es ρ1) else RS.st) = _
  rw [if_pos hl]
theorem back_pub {o : Option Sl} (h : isPub o) : isPub (backSl o) := by
  intro t ds e
  cases o with
  | none => cases e
  | some s =>
    cases s with
    | own t2 ds2 => exact h t2 ds2 rfl
    | nst g => cases e
    | pub m d =>
      unfold backSl at e
      split at e
      · cases e
      · split at e <;> cases e
      · rename_i q; cases q
      · cases e
theorem pair_right_ok (G : Good R C g) (H : Good R C h) (hg : tot g ≤ 1000) (hh : tot h ≤ 1000) {ds : List D} {m : Nat} (Gn : Gen m ds) (hm : m + 10 < 2 ^ 50) : ∃ ds2, FrO (F_l_pair_right ca) ds [gridD g, gridD h] ds2 (.bool true) ∧ Gen (m + 4) ds2 := by
  obtain ⟨kp, hk⟩ := sm_pair G H hg hh
  have evk : Ev (bndA (fCons (bndA (fCons (fVar 1) (fCons (fVar 2) (fNil))) gMkL) (fNil)) gRepr) [some (.own 1 ds), some (.pu (gridD g)), some (.pu (gridD h)), none, none, none, none, none, none, none, none] (.str kp) :=
    Ev.bndA (w := .pu (.str kp)) (.cons (Ev.bndA (k := gMkL) (w := .frs [gridD g, gridD h]) (.cons (.var rfl) (.cons (.var rfl) .nil)) rfl) .nil) hk
  obtain ⟨wk, wk1, wk2⟩ := evk
  rcases fr_swaps_between (ca := ca) G H (by omega) with ⟨e, f⟩ | ⟨e, l, p, pl, f⟩
  · have T : Told R C g h ca .none := ⟨⟨_, f, rfl⟩, by rw [e]; rfl, fun z => (by cases z), .inl rfl, Rpr.of (by decide +kernel)⟩
    obtain ⟨ds2, x6, x8, x9, cp, q6, q8, q9, G2, hc, sA⟩ := pA_ok G H T Gn hm (k := 0) (mt := 0) (kp := .str kp)
    obtain ⟨w, sB, hw⟩ := pB_ok (gs := some (.own 1 ds2)) (x4 := some (.pu .none)) (x4' := some (.pu .none)) (x5 := some (.pu (.bool (sameM C g h)))) (x6 := x6) (x7 := none) (x8 := x8) (x9 := x9) T.fr hk hc (Nx.if (x := false) ⟨_, rfl, rfl⟩ (fun z => nomatch z) fun _ => .nx)
    refine ⟨ds2, frO_of (w := w) (ρ' := [some (.own 1 ds2), some (.pu (gridD g)), some (.pu (gridD h)), some (.pu (.str kp)), some (.pu .none), some (.pu (.bool (sameM C g h))), x6, none, x8, x9, some (.pu (.str cp))]) ?_ hw (colE_own (t := 0) (colE_pubs fun o ho t es => ?_)), G2⟩
    · show g_l_pair_right ca [some (.own 1 ds), some (.pu (gridD g)), some (.pu (gridD h)), none, none, none, none, none, none, none, none] = _
      rw [pair_eq]
      have sP : Nx (pP ca) [some (.own 1 ds), some (.pu (gridD g)), some (.pu (gridD h)), none, none, none, none, none, none, none, none] [some (.own 1 ds), some (.pu (gridD g)), some (.pu (gridD h)), some (.pu (.str kp)), some (.pu .none), none, none, none, none, none, none] := by
        have ec : fCall 2 (F_swaps_between ca) (fCons (fVar 1) (fCons (fVar 2) (fNil))) [some (.own 1 ds), some (.pu (gridD g)), some (.pu (gridD h)), none, none, none, none, none, none, none, none] = .ok (.pu .none) [some (.own 1 ds), some (.pu (gridD g)), some (.pu (gridD h)), none, none, none, none, none, none, none, none] := by
          unfold fCall fCallG
          rw [show fCons (fVar 1) (fCons (fVar 2) (fNil)) _ = .ok [gridD g, gridD h] _ from EvL.cons (.var rfl) (.cons (.var rfl) .nil)]
          show retC (F_swaps_between ca ([gridD g, gridD h].map .pu)) _ = _
          rw [f]
          rfl
        unfold Nx pP sPar sE
        rw [wk1]
        dsimp only
        rw [ec]
        dsimp only
        rw [wk2]
        rfl
      rw [seq_nx sP]
      show sSeq (pA ca) (pB ca) _ = _
      rw [seq_nx sA]
      exact sB
    · simp only [List.mem_cons, List.not_mem_nil, or_false] at ho
      rcases ho with rfl | rfl | rfl | rfl | rfl | rfl | rfl | rfl | rfl | rfl
      · exact fun z => nomatch z
      · exact fun z => nomatch z
      · exact fun z => nomatch z
      · exact fun z => nomatch z
      · exact fun z => nomatch z
      · exact q6 t es
      · exact fun z => nomatch z
      · exact q8 t es
      · exact q9 t es
      · exact fun z => nomatch z
  · have hR := G.R6
    have hC := G.C6
    have rp : Rpr (.list (l.map sD)) := by
      have z : Sms 1 (85 * l.length) (l.map sD) := Sms.map (a := 84) fun s hs => by
        obtain ⟨h1, h2, h3, h4⟩ := path_mem p s hs
        exact sm_sw (by omega) (by omega) (by omega) (by omega)
      exact (Sm.list z).rpr (by decide) (by omega)
    have T : Told R C g h ca (.list (l.map sD)) := ⟨f.fr, by rw [e]; rfl, fun _ => path_goB p, .inr ⟨l, rfl, by omega⟩, rp⟩
    obtain ⟨ds2, x6, x8, x9, cp, q6, q8, q9, G2, hc, sA⟩ := pA_ok G H T Gn hm (k := 1) (mt := 2) (kp := .str kp)
    have s : 2000 ≤ sizeLine := by decide
    obtain ⟨w, sB, hw⟩ := pB_ok (gs := backSl (some (.own 1 ds2))) (x4 := some (.own 0 (l.map sD))) (x4' := some (.own 0 (l.map sD ++ [.int 7]))) (x5 := some (.pu (.bool (sameM C g h)))) (x6 := backSl x6) (x7 := none) (x8 := backSl x8) (x9 := backSl x9) T.fr hk hc (Nx.if (x := true) ⟨_, rfl, rfl⟩ (fun _ => nx_app (t := 0) (ds := l.map sD) rfl .k (by rw [List.length_map]; omega)) fun z => nomatch z)
    have gb : backSl (some (.own 1 ds2)) = some (.own 1 ds2) := by
      obtain ⟨a, s, c, rfl, _⟩ := G2
      rfl
    rw [gb] at sB
    refine ⟨ds2, frO_of (w := w) (ρ' := [some (.own 1 ds2), some (.pu (gridD g)), some (.pu (gridD h)), some (.pu (.str kp)), some (.own 0 (l.map sD ++ [.int 7])), some (.pu (.bool (sameM C g h))), backSl x6, none, backSl x8, backSl x9, some (.pu (.str cp))]) ?_ hw (colE_own (t := 0) ?_), G2⟩
    · show g_l_pair_right ca [some (.own 1 ds), some (.pu (gridD g)), some (.pu (gridD h)), none, none, none, none, none, none, none, none] = _
      rw [pair_eq]
      have sP : Nx (pP ca) [some (.own 1 ds), some (.pu (gridD g)), some (.pu (gridD h)), none, none, none, none, none, none, none, none] [some (.own 1 ds), some (.pu (gridD g)), some (.pu (gridD h)), some (.pu (.str kp)), some (.own 0 (l.map sD)), none, none, none, none, none, none] := by
        have ec : fCall 2 (F_swaps_between ca) (fCons (fVar 1) (fCons (fVar 2) (fNil))) [some (.own 1 ds), some (.pu (gridD g)), some (.pu (gridD h)), none, none, none, none, none, none, none, none] = .ok (.frs (l.map sD)) [some (.own 1 ds), some (.pu (gridD g)), some (.pu (gridD h)), none, none, none, none, none, none, none, none] :=
          Evl.call (.cons (.var rfl) (.cons (.var rfl) .nil)) f rfl
        unfold Nx pP sPar sE
        rw [wk1]
        dsimp only
        rw [ec]
        dsimp only
        rw [wk2]
        rfl
      rw [seq_nx sP]
      rw [stretch_own (ds := l.map sD) (es := l.map sD) rfl rfl sA rfl (noLs_sw l)]
      rw [← sB]
      show pB ca [backSl (some (.own 1 ds2)), _, _, _, _, _, _, _, _, _, _] = _
      rw [gb]
      rfl
    · unfold colE
      rw [List.filterMap_eq_nil_iff]
      intro o ho
      simp only [List.mem_cons, List.not_mem_nil, or_false] at ho
      have pn : ∀ {o : Option Sl}, isPub o → tagOf o = none := fun {o} q => by
        cases o with
        | none => rfl
        | some s =>
          cases s with
          | own t ds => exact absurd rfl (q t ds)
          | _ => rfl
      rcases ho with rfl | rfl | rfl | rfl | rfl | rfl | rfl | rfl | rfl | rfl
      · rfl
      · rfl
      · rfl
      · rfl
      · rfl
      · exact pn (back_pub q6)
      · rfl
      · exact pn (back_pub q8)
      · exact pn (back_pub q9)
      · rfl
end
end K54
/-! E10: law, but for its first statement. -/
namespace K54
open PySem L2 PyProof.Rows DL
abbrev s_law : Stmt := top 55
abbrev N_law : List Str := ["script", "generator", "rows", "columns", "page", "other", "turn", "swap", "row", "bad"]
theorem sc_law : FnScope N_law ["script"] (defScope s_law) := ⟨rfl, rfl, rfl, by decide +kernel, rfl, by decide +kernel, by decide +kernel⟩
noncomputable def g_lawT (K : PySem.W.Frag) (ca : Str → Addr) : DL.Env → RS := sSeq (sPar 2 3 (fOp2 gAdd (fC (.int 1)) (fLend 2 1 F_l_random (fCons (fC (.int 5)) (fNil)))) (fOp2 gAdd (fC (.int 1)) (fLend 2 1 F_l_random (fCons (fC (.int 5)) (fNil))))) (sSeq (sPut 4 (fLend 4 1 F_l_grid (fCons (fVar 2) (fCons (fVar 3) (fCons (fLend 2 1 F_l_pick (fCons (bndA (fCons (fC (.int 1)) (fCons (fC (.int 2)) (fCons (fC (.int 4)) (fNil)))) gMkL) (fNil))) (fNil)))))) (sSeq (sPut 5 (fVar 4)) (sSeq (sFor (srcA (fCons (fC (.int 25)) (fNil)) kRng1) (bName 6) (sSeq (sPut 7 (fLend 2 1 F_l_drawn_swap (fCons (fVar 4) (fNil)))) (sIf (fCall 2 F_l_swap_ok (fCons (fVar 5) (fCons (fVar 7) (fNil)))) (sPut 5 (fCall 2 F_l_behind (fCons (fVar 5) (fCons (fVar 7) (fNil))))) (.nx)))) (sSeq (sIf (fOr (fNot (fLend 2 1 (F_l_swaps_right K ca) (fCons (fVar 4) (fNil)))) (fOr (fNot (fLend 3 1 (F_l_pair_right ca) (fCons (fVar 4) (fCons (fVar 5) (fNil))))) (fNot (fLend 3 1 (F_l_pair_right ca) (fCons (fVar 5) (fCons (fVar 4) (fNil))))))) (sRet (fC (.bool false))) (.nx)) (sSeq (sIf (fOr (fNot (fLend 3 1 (F_l_pair_right ca) (fCons (fVar 4) (fCons (fLend 4 1 F_l_grid (fCons (fVar 2) (fCons (fVar 3) (fCons (fC (.int 2)) (fNil))))) (fNil))))) (fNot (fLend 3 1 (F_l_pair_right ca) (fCons (fVar 4) (fCons (fLc (srcE (fVar 4) itemsL) (bName 8) (fC (.bool true)) (bndA (fCons (fVar 8) (fNil)) gListOf) [8]) (fNil)))))) (sRet (fC (.bool false))) (.nx)) (sSeq (sFor (srcE (fCall 0 F_l_wrong_grids fNil) itemsL) (bName 9) (sIf (fNot (fAllRefd K ca "InvalidTable" "table" [fCall 2 (F_swapped ca) (fCons (fVar 9) (fCons (fC .none) (fNil))), fCall 2 (F_swaps_between ca) (fCons (fVar 9) (fCons (fC .none) (fNil))), fCall 2 (F_swaps_between ca) (fCons (bndA (fCons (bndA (fCons (fC (.int 1)) (fNil)) gMkL) (fNil)) gMkL) (fCons (fVar 9) (fNil))), fCall 3 (F_are_swaps_between ca) (fCons (fVar 9) (fCons (fC .none) (fCons (fC .none) (fNil)))), fCall 3 (F_are_swaps_between ca) (fCons (bndA (fCons (bndA (fCons (fC (.int 1)) (fNil)) gMkL) (fNil)) gMkL) (fCons (fVar 9) (fCons (fC .none) (fNil))))] 9)) (sRet (fC (.bool false))) (.nx))) (sRet (fCall 2 (F_l_same 8) (fCons (bndA (fCons (fCall 2 (F_swapped ca) (fCons (bndA (fCons (bndA (fCons (fC (.int 1)) (fCons (fC (.int 0)) (fNil))) gMkL) (fCons (bndA (fCons (fC (.int 0)) (fCons (fC (.int 1)) (fNil))) gMkL) (fNil))) gMkL) (fCons (bndA (fCons (fC (.int 0)) (fCons (fC (.int 1)) (fCons (fC (.int 1)) (fCons (fC (.int 0)) (fNil))))) gMkT) (fNil)))) (fCons (fCall 2 (F_swaps_between ca) (fCons (bndA (fCons (bndA (fCons (fC (.int 1)) (fNil)) gMkL) (fNil)) gMkL) (fCons (bndA (fCons (bndA (fCons (fC (.int 2)) (fNil)) gMkL) (fNil)) gMkL) (fNil)))) (fCons (fCall 2 (F_swaps_between ca) (fCons (bndA (fCons (bndA (fCons (fC (.int 1)) (fNil)) gMkL) (fNil)) gMkL) (fCons (bndA (fCons (bndA (fCons (fC (.int 1)) (fCons (fC (.int 0)) (fNil))) gMkL) (fNil)) gMkL) (fNil)))) (fNil)))) gMkL) (fCons (bndA (fCons (bndA (fCons (bndA (fCons (fC (.int 0)) (fCons (fC (.int 1)) (fNil))) gMkL) (fCons (bndA (fCons (fC (.int 1)) (fCons (fC (.int 0)) (fNil))) gMkL) (fNil))) gMkL) (fCons (fC .none) (fCons (fC .none) (fNil)))) gMkL) (fNil)))))))))))
theorem b_lawT {P : Program} {w : World} {K : PySem.W.Frag} {mg : Str → Option Value} {base : Heap} {ca : Str → Addr} (B : Bl mg) (d_l_random : Df P w K mg base "_law_random" s_l_random 2 ["generator", "bound"] F_l_random) (d_l_grid : Df P w K mg base "_law_grid" s_l_grid 3 ["generator", "rows", "columns", "most"] F_l_grid) (d_l_pick : Df P w K mg base "_law_pick" s_l_pick 3 ["generator", "things"] F_l_pick) (d_l_drawn_swap : Df P w K mg base "_law_drawn_swap" s_l_drawn_swap 3 ["generator", "page"] F_l_drawn_swap) (d_l_swap_ok : Df P w K mg base "_law_swap_ok" s_l_swap_ok 2 ["page", "value"] F_l_swap_ok) (d_l_behind : Df P w K mg base "_law_behind" s_l_behind 1 ["page", "swap"] F_l_behind) (d_l_swaps_right : Df P w K mg base "_law_swaps_right" s_l_swaps_right 12 ["generator", "page"] (F_l_swaps_right K ca)) (d_l_pair_right : Df P w K mg base "_law_pair_right" s_l_pair_right 9 ["generator", "page", "other"] (F_l_pair_right ca)) (d_l_wrong_grids : Df P w K mg base "_law_wrong_grids" s_l_wrong_grids 1 [] F_l_wrong_grids) (d_swapped : Df P w K mg base "swapped" s_swapped 6 ["grid", "swap"] (F_swapped ca)) (d_swaps_between : Df P w K mg base "swaps_between" s_swaps_between 6 ["grid", "other_grid"] (F_swaps_between ca)) (d_are_swaps_between : Df P w K mg base "are_swaps_between" s_are_swaps_between 6 ["grid", "other_grid", "value"] (F_are_swaps_between ca)) (d_l_same : Df P w K mg base "_law_same" s_l_same 8 ["told", "due"] (F_l_same 8)) (R : RefKit P w K mg base ca) (hfa : ∃ fa fda, FunD K "_law_all_refused" "_law_all_refused" (defArgs s_l_all_refused) (defBody s_l_all_refused) (defScope s_l_all_refused) [] [] fa fda ∧ mg "_law_all_refused" = some (.ref fa)) {f : Addr} {cdv : Value} {A : Around} {outer : List PySem.Env} {s : Shared} {H : Hp} {E : XK} (Mk : Maker (fx P w K mg base N_law "law" s_law f cdv A outer s H E)) (c : Cn (fx P w K mg base N_law "law" s_law f cdv A outer s H E) E 12) :
    DSs (fx P w K mg base N_law "law" s_law f cdv A outer s H E) E ((defBody s_law).drop 1) (g_lawT K ca) := by
  have nd := sc_law.nd
  exact dss_cons (ds_par (i := 2) (j := 3) c.cm nd rfl rfl (by decide) rfl rfl (d_add (de_int) (de_lend d_l_random c (pv 1) (da_cons (de_int) (da_nil)))) (d_add (de_int) (de_lend d_l_random c (pv 1) (da_cons (de_int) (da_nil)))))
    (dss_cons (ds_put (i := 4) nd rfl (by first | exact .inl rfl | exact .inr rfl) (de_lend d_l_grid c (pv 1) (da_cons (de_var (pv 2)) (da_cons (de_var (pv 3)) (da_cons (de_lend d_l_pick c (pv 1) (da_cons (de_mkL (da_cons (de_int) (da_cons (de_int) (da_cons (de_int) (da_nil))))) (da_nil))) (da_nil))))))
    (dss_cons (ds_put (i := 5) nd rfl (by first | exact .inl rfl | exact .inr rfl) (de_var (pv 4)))
    (dss_cons (ds_for (passes_of rfl) c.cm (di_rng1 rfl B.range (da_cons (de_int) (da_nil))) (gt_name) (pg_name nd (i := 6) rfl (by first | exact .inl rfl | exact .inr rfl)) (dss_cons (ds_put (i := 7) nd rfl (by first | exact .inl rfl | exact .inr rfl) (de_lend d_l_drawn_swap c (pv 1) (da_cons (de_var (pv 4)) (da_nil))))
    (dss_one (ds_if (dt_val (de_call d_l_swap_ok c (da_cons (de_var (pv 5)) (da_cons (de_var (pv 7)) (da_nil))))) (dss_one (ds_put (i := 5) nd rfl (by first | exact .inl rfl | exact .inr rfl) (de_call d_l_behind c (da_cons (de_var (pv 5)) (da_cons (de_var (pv 7)) (da_nil)))))) (dss_nil)))))
    (dss_cons (ds_if (dt_w (dw_or (dt_not (dt_val (de_lend d_l_swaps_right c (pv 1) (da_cons (de_var (pv 4)) (da_nil))))) (dw_or (dt_not (dt_val (de_lend d_l_pair_right c (pv 1) (da_cons (de_var (pv 4)) (da_cons (de_var (pv 5)) (da_nil)))))) (dw_or1 (dt_not (dt_val (de_lend d_l_pair_right c (pv 1) (da_cons (de_var (pv 5)) (da_cons (de_var (pv 4)) (da_nil)))))))))) (dss_one (ds_ret (de_bl))) (dss_nil))
    (dss_cons (ds_if (dt_w (dw_or (dt_not (dt_val (de_lend d_l_pair_right c (pv 1) (da_cons (de_var (pv 4)) (da_cons (de_lend d_l_grid c (pv 1) (da_cons (de_var (pv 2)) (da_cons (de_var (pv 3)) (da_cons (de_int) (da_nil))))) (da_nil)))))) (dw_or1 (dt_not (dt_val (de_lend d_l_pair_right c (pv 1) (da_cons (de_var (pv 4)) (da_cons (de_lc (own := [("row", 8)]) c.cm nd (di_list (de_var (pv 4))) (blkOk_by (by rfl)) (gt_name) (by decide) (fun _ _ _ _ _ => pg_name nd (i := 8) rfl (by first | exact .inl rfl | exact .inr rfl)) (fun _ _ _ _ _ => dts_nil) (fun _ _ _ _ _ => d_list B (da_cons (de_var (pv 8)) (da_nil)))) (da_nil))))))))) (dss_one (ds_ret (de_bl))) (dss_nil))
    (dss_cons (ds_for (passes_of rfl) c.cm (di_list (de_call0 d_l_wrong_grids c)) (gt_name) (pg_name nd (i := 9) rfl (by first | exact .inl rfl | exact .inr rfl)) (dss_one (ds_if (dt_not (dt_val (de_allLam (n := "InvalidTable") (k := 6) Mk (c.mono (by decide)) R hfa (.cons (LamB.mk (LamX.lamS_by (by rfl)) rfl (fun _ _ _ _ => rfl) (fun _ _ _ _ _ _ _ cl => de_call d_swapped cl (da_cons (de_var (pv 9)) (da_cons (de_non) (da_nil))))) rfl (.cons (LamB.mk (LamX.lamS_by (by rfl)) rfl (fun _ _ _ _ => rfl) (fun _ _ _ _ _ _ _ cl => de_call d_swaps_between cl (da_cons (de_var (pv 9)) (da_cons (de_non) (da_nil))))) rfl (.cons (LamB.mk (LamX.lamS_by (by rfl)) rfl (fun _ _ _ _ => rfl) (fun _ _ _ _ _ _ _ cl => de_call d_swaps_between cl (da_cons (de_mkL (da_cons (de_mkL (da_cons (de_int) (da_nil))) (da_nil))) (da_cons (de_var (pv 9)) (da_nil))))) rfl (.cons (LamB.mk (LamX.lamS_by (by rfl)) rfl (fun _ _ _ _ => rfl) (fun _ _ _ _ _ _ _ cl => de_call d_are_swaps_between cl (da_cons (de_var (pv 9)) (da_cons (de_non) (da_cons (de_non) (da_nil)))))) rfl (.cons (LamB.mk (LamX.lamS_by (by rfl)) rfl (fun _ _ _ _ => rfl) (fun _ _ _ _ _ _ _ cl => de_call d_are_swaps_between cl (da_cons (de_mkL (da_cons (de_mkL (da_cons (de_int) (da_nil))) (da_nil))) (da_cons (de_var (pv 9)) (da_cons (de_non) (da_nil)))))) rfl (.nil)))))) (pv 9)))) (dss_one (ds_ret (de_bl))) (dss_nil))))
    (dss_one (ds_ret (de_call d_l_same c (da_cons (de_mkL (da_cons (de_call d_swapped c (da_cons (de_mkL (da_cons (de_mkL (da_cons (de_int) (da_cons (de_int) (da_nil)))) (da_cons (de_mkL (da_cons (de_int) (da_cons (de_int) (da_nil)))) (da_nil)))) (da_cons (de_mkT (da_cons (de_int) (da_cons (de_int) (da_cons (de_int) (da_cons (de_int) (da_nil)))))) (da_nil)))) (da_cons (de_call d_swaps_between c (da_cons (de_mkL (da_cons (de_mkL (da_cons (de_int) (da_nil))) (da_nil))) (da_cons (de_mkL (da_cons (de_mkL (da_cons (de_int) (da_nil))) (da_nil))) (da_nil)))) (da_cons (de_call d_swaps_between c (da_cons (de_mkL (da_cons (de_mkL (da_cons (de_int) (da_nil))) (da_nil))) (da_cons (de_mkL (da_cons (de_mkL (da_cons (de_int) (da_cons (de_int) (da_nil)))) (da_nil))) (da_nil)))) (da_nil))))) (da_cons (de_mkL (da_cons (de_mkL (da_cons (de_mkL (da_cons (de_int) (da_cons (de_int) (da_nil)))) (da_cons (de_mkL (da_cons (de_int) (da_cons (de_int) (da_nil)))) (da_nil)))) (da_cons (de_non) (da_cons (de_non) (da_nil))))) (da_nil))))))))))))


end K54
/-! E11: the script is read. -/
namespace K54
open PySem L2 PyProof.Rows DL
abbrev s_l_cell : Stmt := top 37
abbrev N_l_cell : List Str := ["script", "index"]
theorem sc_l_cell : FnScope N_l_cell ["script", "index"] (defScope s_l_cell) := ⟨rfl, rfl, rfl, by decide +kernel, rfl, by decide +kernel, by decide +kernel⟩
abbrev s_l_generator : Stmt := top 38
abbrev N_l_generator : List Str := ["script", "index", "seed"]
theorem sc_l_generator : FnScope N_l_generator ["script", "index"] (defScope s_l_generator) := ⟨rfl, rfl, rfl, by decide +kernel, rfl, by decide +kernel, by decide +kernel⟩
/-- the first cell -/
def cell0 : List Int → Int
  | [] => 0
  | n :: _ => n
section
variable {P : Program} {w : World} {K : PySem.W.Frag} {mg : Str → Option Value} {base : Heap}
theorem cell_run (B : Bl mg) {fc : Addr} {fdc : FuncData} (F : FunD K "_law_cell" "_law_cell" (defArgs s_l_cell) (defBody s_l_cell) (defScope s_l_cell) [] [] fc fdc) {A : Around} {outer : List PySem.Env} {s : Shared} {H : Hp} {l : Addr} {ns : List Int} {t : Tok} {k : Nat} {Q : VK} {E : XK}
    (hgd : A.guards = some []) (hr : Room (k + 1) A) (e0 : Env0 P w K mg base A outer s H) (hS : SqL K H l (ns.map V.int)) (hq : ∀ H', Gr K H H' → Q (.int (cell0 ns)) H') :
    codeAny (model P w) A (.call (.ref fc) ⟨[.ref l, .int 0 t], []⟩) (CR (L2.CX P w) outer P w H s Q E) s := by
  obtain ⟨oc, od, kV, doc, pm, an, cdv, ct, osl, rfl, lk, hcd⟩ := (Fun.ofD F).ex
  refine LamX.run_ofS (N := N_l_cell) (ps := ["script", "index"]) (us := [.ref l, .int 0 t]) (vs := [.ref l, .int 0]) lk hcd sc_l_cell hr e0 (.of_eq (by first | rfl | with_unfolding_all rfl)) (.cons rfl (.cons ⟨t, rfl⟩ .nil)) rfl fun hr2 => ?_
  have nd := sc_l_cell.nd
  have cn : Cn (fx P w K mg base N_l_cell "_law_cell" s_l_cell fc cdv A outer s H E) E k := ⟨hgd, hr2, passes_call (W := fun cls d _ H => E cls d H) (takes_of rfl rfl rfl rfl) (fun _ _ _ _ h => h), takes_of rfl rfl rfl rfl, rfl⟩
  refine ⟨_, pss_cons (ps_if (pt_cmp (pc_lt (pv 1) (pe_callB call_len rfl B.len bt_len (pa_cons (pv 0) pa_nil)))) (pss_one (ps_ret (pe_ix ix_seq (pv 0) (pv 1) fun _ _ => rfl))) pss_nil)
    (pss_one (ps_ret (pe_op op_mod (pe_callB (cr_sum cn.cm) rfl B.sum bt_sum (pa_cons (pe_slice sl_list (pv 0) po_n po_c) pa_nil)) pe_int))), ?_⟩
  refine ⟨.int 0, rfl, .ref l, rfl, .ref l, _, rfl, .inl ⟨_, hS, rfl⟩, 0, _, rfl, rfl, _, rfl, ?_⟩
  match ns, hS, hq with
  | [], hS, hq =>
    have hd : ¬ decide ((0 : Int) < ((([] : List Int).map V.int).length : Nat)) = true := by decide
    show if decide ((0 : Int) < ((([] : List Int).map V.int).length : Nat)) = true then _ else _
    rw [if_neg hd]
    refine ⟨.ref l, rfl, l, _, rfl, hS, fun p hp => ⟨p, [], rfl, .inl (.inl upd_same), 0, 1000003, rfl, rfl, by decide, ?_⟩⟩
    exact hq _ (Ext.gr (Evl.Ex.new hp))
  | n :: r, hS, hq =>
    have hd : decide ((0 : Int) < (((n :: r).map V.int).length : Nat)) = true := decide_eq_true (by rw [List.length_map, List.length_cons]; omega)
    show if decide ((0 : Int) < (((n :: r).map V.int).length : Nat)) = true then _ else _
    rw [if_pos hd]
    exact ⟨.ref l, rfl, .int 0, rfl, .inl ⟨l, _, 0, .int n, rfl, rfl, hS, by
      have z := atI_cell (ns := n :: r) (j := 0) (Nat.succ_pos _)
      exact z, hq H (Ext.gr (Ext.rfl H))⟩⟩
end

end K54
/-! E12: the generator. -/
namespace K54
open PySem L2 PyProof.Rows DL
def g_l_generatorT : DL.Env → RS := sRet (bndA (fCons (fOp2 gMod (bndA (fCons (bndA (fCons (fOp2 gSub (fVar 2) (fOp2 gPow (fC (.int 10)) (fC (.int 18)))) (fCons (fC (.int 0)) (fNil))) gMax2) (fNil)) gInt1) (fOp2 gPow (fOp2 gPow (fC (.int 10)) (fC (.int 60))) (fC (.int 10)))) (fCons (fOp2 gMod (bndA (fCons (fVar 2) (fNil)) gInt1) (fC (.int 2147483647))) (fCons (fOp2 gMul (fC (.int 1000)) (fVar 1)) (fNil)))) gMkL)
theorem b_l_generatorT {P : Program} {w : World} {K : PySem.W.Frag} {mg : Str → Option Value} {base : Heap} {ca : Str → Addr} (B : Bl mg) {f : Addr} {cdv : Value} {A : Around} {outer : List PySem.Env} {s : Shared} {H : Hp} {E : XK} {k : Nat} (c : Cn (fx P w K mg base N_l_generator "_law_generator" s_l_generator f cdv A outer s H E) E k) :
    DSs (fx P w K mg base N_l_generator "_law_generator" s_l_generator f cdv A outer s H E) E ((defBody s_l_generator).drop 1) (g_l_generatorT) := by
  have nd := sc_l_generator.nd
  exact dss_one (ds_ret (de_mkL (da_cons (d_mod (d_int B (da_cons (d_max2 c B (da_cons (d_sub (de_var (pv 2)) (d_pow (de_int) (de_int))) (da_cons (de_int) (da_nil)))) (da_nil))) (d_pow (d_pow (de_int) (de_int)) (de_int))) (da_cons (d_mod (d_int B (da_cons (de_var (pv 2)) (da_nil))) (de_int)) (da_cons (d_mul (de_int) (de_var (pv 1))) (da_nil))))))

section
variable {Y : Cx}
theorem pe_cell0 (B : Bl Y.mg) {fc : Addr} {fdc : FuncData} (F : FunD Y.K "_law_cell" "_law_cell" (defArgs s_l_cell) (defBody s_l_cell) (defScope s_l_cell) [] [] fc fdc) (hm : Y.mg "_law_cell" = some (.ref fc)) {k i j : Nat} {a b : Str} {p p1 p2 pos : Pos} (hgd : Y.A.guards = some []) (hr : Room (k + 1) Y.A) (ha : PE Y (.Name a p1) (tVar i)) (hb : PE Y (.Name b p2) (tVar j))
    (hg : Gl Y "_law_cell" := by rfl) (he : starEach [.Name a p1, .Name b p2] Y.env = (false, eval (.Name a p1) Y.env) :: starEach [.Name b p2] Y.env := by rfl) (he2 : starEach [.Name b p2] Y.env = (false, eval (.Name b p2) Y.env) :: starEach [] Y.env := by rfl) (hpl : (backTo pos (starEach [.Name b p2] Y.env)).any (·.1) = false := by rfl) :
    PE Y (.Call (.Name "_law_cell" p) [.Name a p1, .Name b p2] [] pos) (fun σ H Q => ∃ l ns, σ[i]? = some (some (.ref l)) ∧ σ[j]? = some (some (.int 0)) ∧ SqL Y.K H l (ns.map V.int) ∧ ∀ H', Gr Y.K H H' → Q (.int (cell0 ns)) H') := by
  refine ⟨fun pins s σ H Q I ⟨l, ns, h1, h2, hS, q⟩ => ?_⟩
  refine wpAny_Call_Name_kw (ld_glob I hg hm ?_ (by decide))
  refine PySem.W.callWith_K (h₀ := Y.base) I.ok.mod.kin F.kp (thn ((pa_cons ha (pa_cons hb pa_nil he2) he).run pos pins s σ H (fun vs H1 => vs = [.ref l, .int 0] ∧ H1 = H) I ⟨.ref l, h1, .int 0, h2, rfl, rfl⟩) fun us s1 ⟨vs, H1, I1, r, e1, e2⟩ => ⟨I1.kIn, ?_⟩) he hpl
  subst e1
  rw [e2] at I1
  cases r with
  | cons r1 r =>
    cases r with
    | cons r2 r =>
      cases r
      obtain rfl := r1
      obtain ⟨t, rfl⟩ := r2
      refine wpAny_call (codeAny_mono (cell_run (Q := Q) (E := L2.E0) B F hgd hr I1.env0 hS q) fun r s' hq => ?_)
      cases r with
      | error e => exact (passL (X := Y) pins σ H s1 e s' I1 hq)
      | ok fl =>
        cases fl with
        | ret u => exact I1.after hq
        | next => exact False.elim hq
        | brk => exact False.elim hq
        | cont => exact False.elim hq
end
section
variable {P : Program} {w : World} {K : PySem.W.Frag} {mg : Str → Option Value} {base : Heap}
theorem generator_run (B : Bl mg) {fc fg : Addr} {fdc fdg : FuncData} (F : FunD K "_law_cell" "_law_cell" (defArgs s_l_cell) (defBody s_l_cell) (defScope s_l_cell) [] [] fc fdc) (hm : mg "_law_cell" = some (.ref fc)) (Fg : FunD K "_law_generator" "_law_generator" (defArgs s_l_generator) (defBody s_l_generator) (defScope s_l_generator) [] [] fg fdg)
    {A : Around} {outer : List PySem.Env} {s : Shared} {H : Hp} {l : Addr} {ns : List Int} {t : Tok} {k : Nat} {Q : VK} {E : XK} {ds : List D} {ρ' : DL.Env} (hgd : A.guards = some []) (hr : Room (k + 2) A) (e0 : Env0 P w K mg base A outer s H) (hS : SqL K H l (ns.map V.int)) (tb : LamX.Tabs (TbK K) H)
    (hres : g_l_generatorT [none, some (.pu (.int 0)), some (.pu (.int (cell0 ns)))] = .ret (.frs ds) ρ') (hq : ∀ p xs H', Gr K H H' → H p = none → H' p = some (.lst xs) → Rps K (hid [p] H') xs ds → Q (.ref p) H') :
    codeAny (model P w) A (.call (.ref fg) ⟨[.ref l, .int 0 t], []⟩) (CR (L2.CX P w) outer P w H s Q E) s := by
  obtain ⟨oc, od, kV, doc, pm, an, cdv, ct, osl, rfl, lk, hcd⟩ := (Fun.ofD Fg).ex
  refine LamX.run_ofS (N := N_l_generator) (ps := ["script", "index"]) (us := [.ref l, .int 0 t]) (vs := [.ref l, .int 0]) lk hcd sc_l_generator (hr.mono (j := k + 1 + 1) (Nat.le_refl _)) e0 (.of_eq (by first | rfl | with_unfolding_all rfl)) (.cons rfl (.cons ⟨t, rfl⟩ .nil)) rfl fun hr2 => ?_
  have nd := sc_l_generator.nd
  have cn : Cn (fx P w K mg base N_l_generator "_law_generator" s_l_generator fg cdv A outer s H E) E (k + 1) := ⟨hgd, hr2, passes_call (W := fun cls d _ H => E cls d H) (takes_of rfl rfl rfl rfl) (fun _ _ _ _ h => h), takes_of rfl rfl rfl rfl, rfl⟩
  refine ⟨_, pss_cons (ps_set nd (i := 2) rfl (.inl rfl) (pe_cell0 (Y := fx P w K mg base N_l_generator "_law_generator" s_l_generator fg cdv A outer s H E) B F hm hgd hr2 (pv 0) (pv 1))) (b_l_generatorT (ca := fun _ => 0) B cn).pss, ?_⟩
  refine ⟨l, ns, rfl, rfl, hS, fun H2 g => ?_⟩
  refine ⟨fun _ => 0, [], [], [none, some (.pu (.int 0)), some (.pu (.int (cell0 ns)))], srep_of (fun a z => absurd z (by simp)) (g.tb tb) rfl fun i sl q => ?_, ?_⟩
  · match i with
    | 0 => simp at q
    | 1 => exact ⟨_, .int 0, (by simpa using q.symm), rfl, .int 0⟩
    | 2 => exact ⟨_, .int (cell0 ns), (by simpa using q.symm), rfl, .int _⟩
    | n + 3 => simp at q
  · rw [hres]
    intro p xs σ3 H3 P3 t3 hp n1 n2 S3 hl r3
    exact hq p xs H3 (g.trans t3.toGr) (hp.elim (fun z => absurd z (by simp)) (g.al p)) hl (r3.ext (hid_less fun a z => List.mem_append_right _ z))
end

end K54
/-! M11: the law. -/
namespace K54
open PySem L2 PyProof.Rows DL GM
theorem nx_ifS {ρ ρ' : DL.Env} {fc : DL.Env → RE} {f : DL.Env → RS} (hc : EvS fc ρ ρ' (.bool false)) : Nx (sIf fc f .nx) ρ ρ' := by
  unfold Nx
  rw [if_s hc]
  rfl
/-! ### the generator -/
theorem ev_pow {ρ : DL.Env} {fa fb : DL.Env → RE} {i j : Int} (ha : Ev fa ρ (.int i)) (hb : Ev fb ρ (.int j)) (h : cPow i j = true) : Ev (fOp2 gPow fa fb) ρ (.int (i ^ j.toNat)) := by
  refine Ev.op2 (w := .pu (.int (i ^ j.toNat))) ha hb ?_
  show (if cPow i j then some (W.pu (.int (i ^ j.toNat))) else none) = _
  rw [h]; rfl
theorem generator_ok (z : Int) : ∃ ds ρ', g_l_generatorT [none, some (.pu (.int 0)), some (.pu (.int z))] = .ret (.frs ds) ρ' ∧ Gen 0 ds := by
  have p1 : cPow 10 18 = true := by decide +kernel
  have p2 : cPow 10 60 = true := by decide +kernel
  have p3 : cPow (10 ^ (60 : Int).toNat) 10 = true := by decide +kernel
  have b1 : (0 : Int) < (10 ^ (60 : Int).toNat) ^ (10 : Int).toNat := by decide +kernel
  have r : RtL g_l_generatorT [none, some (.pu (.int 0)), some (.pu (.int z))] [.int ((if (0 : Int) > z - 10 ^ (18 : Int).toNat then 0 else z - 10 ^ (18 : Int).toNat).fmod ((10 ^ (60 : Int).toNat) ^ (10 : Int).toNat)), .int (z.fmod 2147483647), .int (1000 * 0)] := by
    refine .ret (Evl.bndA (k := gMkL) (.cons (ev_mod (ev_int (ev_max (ev_subI (.var rfl) (ev_pow .k .k p1)) .k)) (ev_pow (ev_pow .k .k p2) .k p3) (by omega)) (.cons (ev_mod (ev_int (.var rfl)) .k (by decide)) (.cons (ev_mul .k (.var rfl) (.inl (by decide))) .nil))) rfl) rfl
  obtain ⟨ρ', h1, _⟩ := r
  have q1 := fmod_range (i := if (0 : Int) > z - 10 ^ (18 : Int).toNat then 0 else z - 10 ^ (18 : Int).toNat) b1
  have q2 := fmod_range (i := z) (j := 2147483647) (by decide)
  exact ⟨_, ρ', h1, _, _, _, rfl, q1.1, q2.1, q2.2, by decide, by decide⟩
/-! ### sums -/
theorem tot1_le {M : Nat} : ∀ {r : List Int}, (∀ y ∈ r, y ≤ (M : Nat)) → tot1 r ≤ M * r.length
  | [], _ => by simp [tot1]
  | x :: r, h => by
    have h1 := h x List.mem_cons_self
    have h2 := tot1_le (r := r) fun y hy => h y (List.mem_cons_of_mem _ hy)
    unfold tot1 at h2 ⊢
    rw [List.length_cons, Nat.mul_add, Nat.mul_one]
    simp only [List.map_cons, List.sum_cons]
    omega
theorem tot_le {M C : Nat} : ∀ {g : Grid}, (∀ r ∈ g, r.length = C) → (∀ r ∈ g, ∀ y ∈ r, y ≤ (M : Nat)) → tot g ≤ (M * C) * g.length
  | [], _, _ => by simp [tot]
  | r :: g, h1, h2 => by
    have q1 := tot1_le (h2 r List.mem_cons_self)
    have q2 := tot_le (g := g) (fun x hx => h1 x (List.mem_cons_of_mem _ hx)) fun x hx => h2 x (List.mem_cons_of_mem _ hx)
    rw [h1 r List.mem_cons_self] at q1
    unfold tot at q2 ⊢
    rw [List.length_cons, Nat.mul_add, Nat.mul_one]
    simp only [List.map_cons, List.sum_cons]
    omega
theorem tot1_sum : ∀ {r : List Int}, (∀ y ∈ r, 0 ≤ y) → ((tot1 r : Nat) : Int) = r.sum
  | [], _ => by simp [tot1]
  | x :: r, h => by
    have h1 := h x List.mem_cons_self
    have h2 := tot1_sum (r := r) fun y hy => h y (List.mem_cons_of_mem _ hy)
    unfold tot1 at h2 ⊢
    simp only [List.map_cons, List.sum_cons]
    omega
theorem tot_sum : ∀ {g : Grid}, (∀ r ∈ g, ∀ y ∈ r, 0 ≤ y) → ((tot g : Nat) : Int) = (g.map List.sum).sum
  | [], _ => by simp [tot]
  | r :: g, h => by
    have q1 := tot1_sum (h r List.mem_cons_self)
    have q2 := tot_sum (g := g) fun x hx => h x (List.mem_cons_of_mem _ hx)
    unfold tot at q2 ⊢
    simp only [List.map_cons, List.sum_cons]
    omega
theorem sums_beh {R C : Nat} {g : Grid} {a b c d : Nat} (G : Rect R C g) (ha : a < R) (hb : b < R) (hc : c < C) (hd : d < C) : (beh g a b c d).map List.sum = g.map List.sum := by
  have G2 : Rect R C (beh g a b c d) := G.beh
  refine List.ext_getElem (by rw [List.length_map, List.length_map, G.len, G2.len]) fun i h1 h2 => ?_
  rw [List.length_map] at h1 h2
  have hi : i < R := by rw [← G.len]; exact h2
  have z := rsum_beh G ha hb hc hd i
  unfold rsum row at z
  rw [List.getElem?_eq_getElem h1, List.getElem?_eq_getElem h2] at z
  rw [List.getElem_map, List.getElem_map]
  exact z
theorem tot_same {R C : Nat} {g h : Grid} (G : Good R C g) (H : Good R C h) (e : g.map List.sum = h.map List.sum) : tot g = tot h := by
  have q1 := tot_sum G.n.mem
  have q2 := tot_sum H.n.mem
  rw [e] at q1
  omega
/-! ### wrong grids -/
def WL : List D := [.none, .int 7, .tuple [], .list [], .list [.list []], .list [.list [.int 1], .list [.int 1], .list [.int 1], .list [.int 1], .list [.int 1], .list [.int 1], .list [.int 1]], .list [.list [.int 1, .int 1, .int 1, .int 1, .int 1, .int 1, .int 1]], .list [.list [.int 1], .list [.int 1, .int 2]], .list [.tuple [.int 1, .int 2]], .list [.list [.int (-1)]], .list [.list [.bool true]], .list [.list [.none]], .list [.list [.str "1"]], .list [.int 1], .dict []]
def isF (r : RF) : Bool := match r with
  | .ok (.pu (.bool b)) [] => !b
  | _ => false
theorem isF_ok {F : List Sl → RF} {ds : List D} (h : isF (F (ds.map .pu)) = true) : Fr F ds (.bool false) := by
  unfold isF at h
  split at h
  · rename_i b q
    cases b with
    | false => exact ⟨_, q, rfl⟩
    | true => cases h
  · cases h
theorem wrong_any : ∀ d ∈ WL, Fr F_is_any_grid [d] (.bool false) := by
  have h : ∀ d ∈ WL, isF (F_is_any_grid ([d].map .pu)) = true := by decide +kernel
  exact fun d hd => isF_ok (h d hd)
theorem wrong_rpr : ∀ d ∈ WL, Rpr d := by
  have h : ∀ d ∈ WL, (gRepr [d]).isSome = true := by decide +kernel
  exact fun d hd => Rpr.of (h d hd)
theorem wrong_list : FrL F_l_wrong_grids [] WL := by
  refine frL_of (.ret ?_ rfl)
  refine Evl.bndA (k := gMkL) (.cons .k (.cons .k (.cons (Ev.bndA (k := gMkT) (w := .pu (.tuple [])) .nil rfl) (.cons (Ev.bndA (k := gMkL) (w := .frs []) .nil rfl) (.cons (Ev.bndA (k := gMkL) (w := .frs [.list []]) (.cons (Ev.bndA (k := gMkL) (w := .frs []) .nil rfl) .nil) rfl) (.cons (Ev.op2 (g := gMul) (w := .frs [.list [.int 1], .list [.int 1], .list [.int 1], .list [.int 1], .list [.int 1], .list [.int 1], .list [.int 1]]) (Ev.bndA (k := gMkL) (w := .frs [.list [.int 1]]) (.cons (Ev.bndA (k := gMkL) (w := .frs [.int 1]) (.cons .k .nil) rfl) .nil) rfl) .k rfl) (.cons (Ev.bndA (k := gMkL) (w := .frs [.list [.int 1, .int 1, .int 1, .int 1, .int 1, .int 1, .int 1]]) (.cons (Ev.op2 (g := gMul) (w := .frs [.int 1, .int 1, .int 1, .int 1, .int 1, .int 1, .int 1]) (Ev.bndA (k := gMkL) (w := .frs [.int 1]) (.cons .k .nil) rfl) .k rfl) .nil) rfl) (.cons (Ev.bndA (k := gMkL) (w := .frs [.list [.int 1], .list [.int 1, .int 2]]) (.cons (Ev.bndA (k := gMkL) (w := .frs [.int 1]) (.cons .k .nil) rfl) (.cons (Ev.bndA (k := gMkL) (w := .frs [.int 1, .int 2]) (.cons .k (.cons .k .nil)) rfl) .nil)) rfl) (.cons (Ev.bndA (k := gMkL) (w := .frs [.tuple [.int 1, .int 2]]) (.cons (Ev.bndA (k := gMkT) (w := .pu (.tuple [.int 1, .int 2])) (.cons .k (.cons .k .nil)) rfl) .nil) rfl) (.cons (Ev.bndA (k := gMkL) (w := .frs [.list [.int (-1)]]) (.cons (Ev.bndA (k := gMkL) (w := .frs [.int (-1)]) (.cons (ev_subI .k .k) .nil) rfl) .nil) rfl) (.cons (Ev.bndA (k := gMkL) (w := .frs [.list [.bool true]]) (.cons (Ev.bndA (k := gMkL) (w := .frs [.bool true]) (.cons .k .nil) rfl) .nil) rfl) (.cons (Ev.bndA (k := gMkL) (w := .frs [.list [.none]]) (.cons (Ev.bndA (k := gMkL) (w := .frs [.none]) (.cons .k .nil) rfl) .nil) rfl) (.cons (Ev.bndA (k := gMkL) (w := .frs [.list [.str "1"]]) (.cons (Ev.bndA (k := gMkL) (w := .frs [.str "1"]) (.cons .k .nil) rfl) .nil) rfl) (.cons (Ev.bndA (k := gMkL) (w := .frs [.int 1]) (.cons .k .nil) rfl) (.cons (show Ev fDict0 _ (.dict []) from ⟨_, rfl, rfl⟩) .nil))))))))))))))) rfl
section
variable {ca : Str → Addr}
theorem wrong_check {d : D} (hd : d ∈ WL) : FrE (F_check_grid ca) [d] (ca "InvalidTable") d :=
  frE_of (Er.if (x := true) (.not (x := false) (.call (.cons (.var rfl) .nil) (wrong_any d hd) rfl)) (fun _ => Er.raise (.cons (.var rfl) .nil)) fun z => nomatch z)
theorem good1 : Good 1 1 [[1]] := ⟨⟨rfl, fun r hr => by rw [List.mem_singleton.mp hr]; rfl⟩, NN.of fun r hr y hy => by rw [List.mem_singleton.mp hr] at hy; rw [List.mem_singleton.mp hy]; decide, by decide, by decide, by decide, by decide⟩
theorem good2 : Good 1 1 [[2]] := ⟨⟨rfl, fun r hr => by rw [List.mem_singleton.mp hr]; rfl⟩, NN.of fun r hr y hy => by rw [List.mem_singleton.mp hr] at hy; rw [List.mem_singleton.mp hy]; decide, by decide, by decide, by decide, by decide⟩
theorem good12 : Good 1 2 [[1, 0]] := ⟨⟨rfl, fun r hr => by rw [List.mem_singleton.mp hr]; rfl⟩, NN.of fun r hr y hy => by
  rw [List.mem_singleton.mp hr] at hy
  simp only [List.mem_cons, List.not_mem_nil, or_false] at hy
  rcases hy with rfl | rfl <;> decide, by decide, by decide, by decide, by decide⟩
theorem good22 : Good 2 2 [[1, 0], [0, 1]] := ⟨⟨rfl, fun r hr => by
  simp only [List.mem_cons, List.not_mem_nil, or_false] at hr
  rcases hr with rfl | rfl <;> rfl⟩, NN.of fun r hr y hy => by
  simp only [List.mem_cons, List.not_mem_nil, or_false] at hr
  rcases hr with rfl | rfl <;> simp only [List.mem_cons, List.not_mem_nil, or_false] at hy <;> rcases hy with rfl | rfl <;> decide, by decide, by decide, by decide, by decide⟩
theorem sw_first {d e : D} (hd : d ∈ WL) : FrE (F_swapped ca) [d, e] (ca "InvalidTable") d := frE_of (Er.now (Er.drop (callE (.cons (.var rfl) .nil) (wrong_check hd) rfl)))
theorem sb_first {d e : D} (hd : d ∈ WL) : FrE (F_swaps_between ca) [d, e] (ca "InvalidTable") d := frE_of (Er.now (Er.drop (callE (.cons (.var rfl) .nil) (wrong_check hd) rfl)))
theorem ar_first {d e f : D} (hd : d ∈ WL) : FrE (F_are_swaps_between ca) [d, e, f] (ca "InvalidTable") d := frE_of (Er.now (Er.drop (callE (.cons (.var rfl) .nil) (wrong_check hd) rfl)))
theorem sb_second {d : D} (hd : d ∈ WL) : FrE (F_swaps_between ca) [gridD [[1]], d] (ca "InvalidTable") d :=
  frE_of (Er.seq (ρ1 := args 5 [gridD [[1]], d]) (Nx.drop (.call (.cons (.var rfl) .nil) (fr_check_grid good1) rfl)) (Er.now (Er.drop (callE (.cons (.var rfl) .nil) (wrong_check hd) rfl))))
theorem ar_second {d f : D} (hd : d ∈ WL) : FrE (F_are_swaps_between ca) [gridD [[1]], d, f] (ca "InvalidTable") d :=
  frE_of (Er.seq (ρ1 := args 5 [gridD [[1]], d, f]) (Nx.drop (.call (.cons (.var rfl) .nil) (fr_check_grid good1) rfl)) (Er.now (Er.drop (callE (.cons (.var rfl) .nil) (wrong_check hd) rfl))))
theorem fr_sb_none {R C R2 C2 : Nat} {g h : Grid} (G : Good R C g) (H : Good R2 C2 h) (ne : gNe (marg C g) (marg C2 h) = some (.pu (.bool true))) : Fr (F_swaps_between ca) [gridD g, gridD h] .none := by
  have c1 : Nx (sDrop (fCall 1 (F_check_grid ca) (fCons (fVar 0) (fNil)))) (args 5 [gridD g, gridD h]) (args 5 [gridD g, gridD h]) := Nx.drop (.call (.cons (.var rfl) .nil) (fr_check_grid G) rfl)
  have c2 : Nx (sDrop (fCall 1 (F_check_grid ca) (fCons (fVar 1) (fNil)))) (args 5 [gridD g, gridD h]) (args 5 [gridD g, gridD h]) := Nx.drop (.call (.cons (.var rfl) .nil) (fr_check_grid H) rfl)
  exact fr_of (Rt.seq c1 (Rt.seq c2 (Rt.guard (x := true) (Ev.op2 (w := .pu (.bool true)) (.call (.cons (.var rfl) .nil) (fr_sums_of G) rfl) (.call (.cons (.var rfl) .nil) (fr_sums_of H) rfl) ne) (fun _ => .ret .k rfl) fun z => nomatch z)))
theorem fAllRefd_ok {K : PySem.W.Frag} {ρ : DL.Env} {i m : Nat} {n wd : Str} {fbs : List (DL.Env → RE)} {d : D} (h : ρ[i]? = some (some (.pub m d))) (h1 : ∀ fb ∈ fbs, fb (pubE ρ) = .err (ca n) d) (h2 : RefOk K ca n wd d) (h3 : fbs.length ≤ sizeLine) : Ev (fAllRefd K ca n wd fbs i) ρ (.bool true) := by
  unfold Ev fAllRefd
  rw [h]
  dsimp only
  rw [if_pos ⟨h1, h2, h3⟩]
  exact ⟨_, rfl, rfl⟩
end
section
variable {P : Program} {K : PySem.W.Frag} {mg : Str → Option Value} {ca : Str → Addr}
theorem law_ok (X : Exs P K mg ca) {ds : List D} (Gn : Gen 0 ds) : ∃ ρ2, g_lawT K ca [none, some (.own 0 ds), none, none, none, none, none, none, none, none] = .ret (.pu (.bool true)) ρ2 := by
  obtain ⟨r, d1, f1, l1, G1⟩ := random_ok (b := 5) Gn (by decide) (by decide) (by decide)
  obtain ⟨c, d2, f2, l2, G2⟩ := random_ok (b := 5) G1 (by decide) (by decide) (by decide)
  obtain ⟨mo, d3, f3, mo1, mo4, G3⟩ := pick_ok G2 (by decide)
  let R := 1 + r
  let C := 1 + c
  have hR : R ≤ 6 := by omega
  have hC : C ≤ 6 := by omega
  obtain ⟨g, d4, f4, G, gm, G4⟩ := grid_ok (R := R) (C := C) (M := mo) G3 (by decide) (by omega) hR (by omega) hC (by omega)
  let E (ds : List D) (x2 x3 x4 x5 x6 x7 x9 : Option Sl) : DL.Env := [none, some (.own 0 ds), x2, x3, x4, x5, x6, x7, none, x9]
  let vR : Option Sl := some (.pu (.int (R : Nat)))
  let vC : Option Sl := some (.pu (.int (C : Nat)))
  let vG : Option Sl := some (.pu (gridD g))
  have rnd : ∀ {ds ds2 : List D} {k : Nat} {x2 : Option Sl}, FrO F_l_random ds [.int 5] ds2 (.int (k : Nat)) → EvS (fOp2 gAdd (fC (.int 1)) (fLend 2 1 F_l_random (fCons (fC (.int 5)) (fNil)))) (E ds none none none none none none none) (E ds2 none none none none none none none) (.int ((1 + k : Nat) : Int)) := fun {ds ds2 k x2} h => by
    have z := EvS.op2 (g := gAdd) (w := .pu (.int (1 + (k : Nat)))) (fa := fC (.int 1)) (fb := fLend 2 1 F_l_random (fCons (fC (.int 5)) (fNil))) (ρ := E ds none none none none none none none) (ρ1 := E ds none none none none none none none) (ρ2 := E ds2 none none none none none none none) (Ev.s .k) (EvS.lend (t := 0) (ds := ds) (es := [.int 5]) rfl (.cons .k .nil) rfl h) rfl
    rw [show ((1 + k : Nat) : Int) = 1 + (k : Nat) by omega]
    exact z
  have s1 : Nx (sPar 2 3 (fOp2 gAdd (fC (.int 1)) (fLend 2 1 F_l_random (fCons (fC (.int 5)) (fNil)))) (fOp2 gAdd (fC (.int 1)) (fLend 2 1 F_l_random (fCons (fC (.int 5)) (fNil))))) (E ds none none none none none none none) (E d2 vR vC none none none none none) := by
    obtain ⟨w1, a1, a2⟩ := rnd (x2 := none) f1
    obtain ⟨w2, b1, b2⟩ := rnd (x2 := none) f2
    unfold Nx sPar sE
    rw [a1]
    dsimp only
    rw [b1]
    dsimp only
    cases w2 with
    | pu d =>
      rw [a2, show d = _ from b2]
      rfl
    | frs es => cases b2
  have s2 : Nx (sPut 4 (fLend 4 1 F_l_grid (fCons (fVar 2) (fCons (fVar 3) (fCons (fLend 2 1 F_l_pick (fCons (bndA (fCons (fC (.int 1)) (fCons (fC (.int 2)) (fCons (fC (.int 4)) (fNil)))) gMkL) (fNil))) (fNil)))))) (E d2 vR vC none none none none none) (E d4 vR vC vG none none none none) :=
    put_s (ρ' := E d4 vR vC none none none none none) (EvS.lendS (t0 := 0) (ds0 := d2) (t := 0) (ds := d3) (ρ1 := E d3 vR vC none none none none none) rfl (EvLS.cons (Ev.s (.var rfl)) (EvLS.cons (Ev.s (.var rfl)) (EvLS.cons (EvS.lend (t := 0) (ds := d2) (es := [.list [.int 1, .int 2, .int 4]]) rfl (.cons (Ev.bndA (k := gMkL) (w := .frs [.int 1, .int 2, .int 4]) (.cons .k (.cons .k (.cons .k .nil))) rfl) .nil) rfl f3) .nil))) rfl rfl f4)
  have s3 : Nx (sPut 5 (fVar 4)) (E d4 vR vC vG none none none none) (E d4 vR vC vG (some (.pu (gridD g))) none none none) := Nx.put (.var rfl)
  have tg : tot g ≤ 1000 := by
    have z := tot_le (M := mo) G.G.row gm
    rw [G.G.len] at z
    have : mo * C * R ≤ 4 * 6 * 6 := Nat.mul_le_mul (Nat.mul_le_mul mo4 hC) hR
    omega
  have hCR : C * R ≤ 36 := Nat.mul_le_mul hC hR
  have s4 : ∃ (m : Nat) (d5 : List D) (h : Grid) (x6 x7 : Option Sl), Gen m d5 ∧ m ≤ 1000 ∧ Good R C h ∧ tot h ≤ 1000 ∧ Nx (sFor (srcA (fCons (fC (.int 25)) (fNil)) kRng1) (bName 6) (sSeq (sPut 7 (fLend 2 1 F_l_drawn_swap (fCons (fVar 4) (fNil)))) (sIf (fCall 2 F_l_swap_ok (fCons (fVar 5) (fCons (fVar 7) (fNil)))) (sPut 5 (fCall 2 F_l_behind (fCons (fVar 5) (fCons (fVar 7) (fNil))))) (.nx)))) (E d4 vR vC vG (some (.pu (gridD g))) none none none) (E d5 vR vC vG (some (.pu (gridD h))) x6 x7 none) := by
    have key := for_inv (bind := bName 6) (body := sSeq (sPut 7 (fLend 2 1 F_l_drawn_swap (fCons (fVar 4) (fNil)))) (sIf (fCall 2 F_l_swap_ok (fCons (fVar 5) (fCons (fVar 7) (fNil)))) (sPut 5 (fCall 2 F_l_behind (fCons (fVar 5) (fCons (fVar 7) (fNil))))) (.nx)))
      (fun items ρ => ∃ (m : Nat) (d5 : List D) (h : Grid) (x6 x7 : Option Sl), Gen m d5 ∧ m + 4 * items.length ≤ 1000 ∧ Good R C h ∧ h.map List.sum = g.map List.sum ∧ ρ = E d5 vR vC vG (some (.pu (gridD h))) x6 x7 none)
      (fun o => ∃ (m : Nat) (d5 : List D) (h : Grid) (x6 x7 : Option Sl), Gen m d5 ∧ m ≤ 1000 ∧ Good R C h ∧ tot h ≤ 1000 ∧ o = .nx (E d5 vR vC vG (some (.pu (gridD h))) x6 x7 none)) ((List.range 25).map fun i : Nat => PyData.int (i : Nat)) (E d4 vR vC vG (some (.pu (gridD g))) none none none)
      ⟨_, d4, g, none, none, G4, by rw [List.length_map, List.length_range]; omega, G, rfl, rfl⟩
      (fun v rest ρ hJ => by
        obtain ⟨m, d5, h, x6, x7, Gm, hm, H, e, rfl⟩ := hJ
        rw [List.length_cons] at hm
        obtain ⟨a, b, c, d, d6, f, q1, q2, q3, q4, G6⟩ := drawn_ok Gm (by omega) G
        have p7 : Nx (sPut 7 (fLend 2 1 F_l_drawn_swap (fCons (fVar 4) (fNil)))) (E d5 vR vC vG (some (.pu (gridD h))) (some (.pu v)) x7 none) (E d6 vR vC vG (some (.pu (gridD h))) (some (.pu v)) (some (.pu (swD a b c d))) none) :=
          put_s (ρ' := E d6 vR vC vG (some (.pu (gridD h))) (some (.pu v)) x7 none) (EvS.lend (t := 0) (ds := d5) (es := [gridD g]) rfl (.cons (.var rfl) .nil) rfl f)
        have es := fr_l_swap_ok H (v := swD a b c d) vOk_sw
        refine ⟨E d5 vR vC vG (some (.pu (gridD h))) (some (.pu v)) x7 none, rfl, .inl ?_⟩
        cases q : swB R C h (swD a b c d) with
        | true =>
          rw [q] at es
          have sw : swP R C h a b c d := by
            rw [swB_nat] at q
            exact of_decide_eq_true q
          refine ⟨E d6 vR vC vG (some (.pu (gridD (beh h a b c d)))) (some (.pu v)) (some (.pu (swD a b c d))) none, Nx.seq p7 (Nx.if (x := true) (.call (.cons (.var rfl) (.cons (.var rfl) .nil)) es rfl) (fun _ => Nx.put (Ev.call (d := gridD (beh h a b c d)) (.cons (.var rfl) (.cons (.var rfl) .nil)) (fr_l_behind H sw).fr rfl)) fun z => nomatch z), m + 4, d6, beh h a b c d, some (.pu v), some (.pu (swD a b c d)), G6, by omega, H.beh sw, ?_, rfl⟩
          rw [sums_beh H.G q1 q2 q3 q4]
          exact e
        | false =>
          rw [q] at es
          exact ⟨E d6 vR vC vG (some (.pu (gridD h))) (some (.pu v)) (some (.pu (swD a b c d))) none, Nx.seq p7 (Nx.if (x := false) (.call (.cons (.var rfl) (.cons (.var rfl) .nil)) es rfl) (fun z => nomatch z) fun _ => .nx), m + 4, d6, h, some (.pu v), some (.pu (swD a b c d)), G6, by omega, H, e, rfl⟩)
      fun ρ hJ => by
        obtain ⟨m, d5, h, x6, x7, Gm, hm, H, e, rfl⟩ := hJ
        exact ⟨m, d5, h, x6, x7, Gm, by omega, H, by rw [tot_same H G e]; exact tg, rfl⟩
    obtain ⟨m, d5, h, x6, x7, k1, k2, k3, k4, k5⟩ := key
    exact ⟨m, d5, h, x6, x7, k1, k2, k3, k4, sFor_ok (srcA_ok (.cons .k .nil) (rng1 (n := 25) (by decide))) k5⟩
  obtain ⟨m, d5, h, x6, x7, G5, hm, H, th, s4⟩ := s4
  let vH : Option Sl := some (.pu (gridD h))
  obtain ⟨d6, f6, G6⟩ := swaps_right_ok X G G5 (by omega)
  obtain ⟨d7, f7, G7⟩ := pair_right_ok (ca := ca) G H tg th G6 (by omega)
  obtain ⟨d8, f8, G8⟩ := pair_right_ok (ca := ca) H G th tg G7 (by omega)
  have s5 : Nx (sIf (fOr (fNot (fLend 2 1 (F_l_swaps_right K ca) (fCons (fVar 4) (fNil)))) (fOr (fNot (fLend 3 1 (F_l_pair_right ca) (fCons (fVar 4) (fCons (fVar 5) (fNil))))) (fNot (fLend 3 1 (F_l_pair_right ca) (fCons (fVar 5) (fCons (fVar 4) (fNil))))))) (sRet (fC (.bool false))) (.nx)) (E d5 vR vC vG vH x6 x7 none) (E d8 vR vC vG vH x6 x7 none) :=
    nx_ifS (EvS.orF (ρ1 := E d6 vR vC vG vH x6 x7 none) (EvS.not (x := true) (EvS.lend (t := 0) (ds := d5) (es := [gridD g]) rfl (.cons (.var rfl) .nil) rfl f6)) (EvS.orF (ρ1 := E d7 vR vC vG vH x6 x7 none) (EvS.not (x := true) (EvS.lend (t := 0) (ds := d6) (es := [gridD g, gridD h]) rfl (.cons (.var rfl) (.cons (.var rfl) .nil)) rfl f7)) (EvS.not (x := true) (EvS.lend (t := 0) (ds := d7) (es := [gridD h, gridD g]) rfl (.cons (.var rfl) (.cons (.var rfl) .nil)) rfl f8))))
  obtain ⟨u, d9, f9, U, um, G9⟩ := grid_ok (R := R) (C := C) (M := 2) G8 (by omega) (by omega) hR (by omega) hC (by decide)
  have tu : tot u ≤ 1000 := by
    have z := tot_le (M := 2) U.G.row um
    rw [U.G.len] at z
    have : 2 * C * R ≤ 2 * 6 * 6 := Nat.mul_le_mul (Nat.mul_le_mul (Nat.le_refl 2) hC) hR
    omega
  obtain ⟨d10, f10, G10⟩ := pair_right_ok (ca := ca) G U tg tu G9 (by omega)
  obtain ⟨d11, f11, G11⟩ := pair_right_ok (ca := ca) G G tg tg G10 (by omega)
  have s6 : Nx (sIf (fOr (fNot (fLend 3 1 (F_l_pair_right ca) (fCons (fVar 4) (fCons (fLend 4 1 F_l_grid (fCons (fVar 2) (fCons (fVar 3) (fCons (fC (.int 2)) (fNil))))) (fNil))))) (fNot (fLend 3 1 (F_l_pair_right ca) (fCons (fVar 4) (fCons (fLc (srcE (fVar 4) itemsL) (bName 8) (fC (.bool true)) (bndA (fCons (fVar 8) (fNil)) gListOf) [8]) (fNil)))))) (sRet (fC (.bool false))) (.nx)) (E d8 vR vC vG vH x6 x7 none) (E d11 vR vC vG vH x6 x7 none) := by
    have lc : Evl (fLc (srcE (fVar 4) itemsL) (bName 8) (fC (.bool true)) (bndA (fCons (fVar 8) (fNil)) gListOf) [8]) (E d10 vR vC vG vH x6 x7 none) (g.map rowD) :=
      evl_map rowD rowD g (srcE_ok (.var (m := 0) (d := gridD g) rfl) rfl) rfl (by rw [G.G.len]; exact Nat.le_trans hR (by decide)) fun x hx => ⟨_, rfl, Ev.bndA (k := gListOf) (w := .frs (x.map .int)) (.cons (.var rfl) .nil) rfl, rfl⟩
    refine nx_ifS (EvS.orF (ρ1 := E d10 vR vC vG vH x6 x7 none) (EvS.not (x := true) ?_) (EvS.not (x := true) (EvS.lend (t := 0) (ds := d10) (es := [gridD g, gridD g]) rfl (.cons (.var rfl) (.cons lc.ev .nil)) rfl f11)))
    exact EvS.lendS (t0 := 0) (ds0 := d8) (t := 0) (ds := d9) (ρ1 := E d9 vR vC vG vH x6 x7 none) rfl (EvLS.cons (Ev.s (.var rfl)) (EvLS.cons (EvS.lend (t := 0) (ds := d8) (es := [.int (R : Nat), .int (C : Nat), .int 2]) rfl (.cons (.var rfl) (.cons (.var rfl) (.cons .k .nil))) rfl f9) .nil)) rfl rfl f10
  let fbs : List (DL.Env → RE) := [fCall 2 (F_swapped ca) (fCons (fVar 9) (fCons (fC .none) (fNil))), fCall 2 (F_swaps_between ca) (fCons (fVar 9) (fCons (fC .none) (fNil))), fCall 2 (F_swaps_between ca) (fCons (bndA (fCons (bndA (fCons (fC (.int 1)) (fNil)) gMkL) (fNil)) gMkL) (fCons (fVar 9) (fNil))), fCall 3 (F_are_swaps_between ca) (fCons (fVar 9) (fCons (fC .none) (fCons (fC .none) (fNil)))), fCall 3 (F_are_swaps_between ca) (fCons (bndA (fCons (bndA (fCons (fC (.int 1)) (fNil)) gMkL) (fNil)) gMkL) (fCons (fVar 9) (fCons (fC .none) (fNil))))]
  have m1 : ∀ ρ : DL.Env, Ev (bndA (fCons (bndA (fCons (fC (.int 1)) (fNil)) gMkL) (fNil)) gMkL) ρ (gridD [[1]]) := fun ρ => Ev.bndA (k := gMkL) (w := .frs [rowD [1]]) (.cons (Ev.bndA (k := gMkL) (w := .frs [.int 1]) (.cons .k .nil) rfl) .nil) rfl
  have s7 : ∃ x9, Nx (sFor (srcE (fCall 0 F_l_wrong_grids fNil) itemsL) (bName 9) (sIf (fNot (fAllRefd K ca "InvalidTable" "table" fbs 9)) (sRet (fC (.bool false))) (.nx))) (E d11 vR vC vG vH x6 x7 none) (E d11 vR vC vG vH x6 x7 x9) := by
    have key := for_inv (bind := bName 9) (body := sIf (fNot (fAllRefd K ca "InvalidTable" "table" fbs 9)) (sRet (fC (.bool false))) (.nx)) (fun items ρ => (∃ x9, ρ = E d11 vR vC vG vH x6 x7 x9) ∧ ∀ d ∈ items, d ∈ WL) (fun o => ∃ x9, o = .nx (E d11 vR vC vG vH x6 x7 x9)) WL (E d11 vR vC vG vH x6 x7 none) ⟨⟨none, rfl⟩, fun d hd => hd⟩
      (fun d rest ρ hJ => by
        obtain ⟨⟨x9, rfl⟩, ok⟩ := hJ
        have hd := ok d List.mem_cons_self
        refine ⟨E d11 vR vC vG vH x6 x7 (some (.pu d)), rfl, .inl ⟨E d11 vR vC vG vH x6 x7 (some (.pu d)), Nx.if (x := false) (.not (x := true) (fAllRefd_ok (m := 0) (d := d) rfl (fun fb hfb => ?_) (ref_table X (wrong_rpr d hd)) (by show 5 ≤ sizeLine; decide))) (fun z => nomatch z) fun _ => .nx, ⟨_, rfl⟩, fun y hy => ok y (List.mem_cons_of_mem _ hy)⟩⟩
        simp only [fbs, List.mem_cons, List.not_mem_nil, or_false] at hfb
        have v9 : Ev (fVar 9) (pubE (E d11 vR vC vG vH x6 x7 (some (.pu d)))) d := .var (m := 0) rfl
        rcases hfb with rfl | rfl | rfl | rfl | rfl
        · exact callE (.cons v9 (.cons .k .nil)) (sw_first hd) rfl
        · exact callE (.cons v9 (.cons .k .nil)) (sb_first hd) rfl
        · exact callE (.cons (m1 _) (.cons v9 .nil)) (sb_second hd) rfl
        · exact callE (.cons v9 (.cons .k (.cons .k .nil))) (ar_first hd) rfl
        · exact callE (.cons (m1 _) (.cons v9 (.cons .k .nil))) (ar_second hd) rfl)
      fun ρ hJ => by
        obtain ⟨⟨x9, rfl⟩, _⟩ := hJ
        exact ⟨x9, rfl⟩
    obtain ⟨x9, k⟩ := key
    exact ⟨x9, sFor_ok (srcE_ok (Ev.call .nil wrong_list.fr rfl) rfl) k⟩
  obtain ⟨x9, s7⟩ := s7
  have fin : ∃ w, sRet (fCall 2 (F_l_same 8) (fCons (bndA (fCons (fCall 2 (F_swapped ca) (fCons (bndA (fCons (bndA (fCons (fC (.int 1)) (fCons (fC (.int 0)) (fNil))) gMkL) (fCons (bndA (fCons (fC (.int 0)) (fCons (fC (.int 1)) (fNil))) gMkL) (fNil))) gMkL) (fCons (bndA (fCons (fC (.int 0)) (fCons (fC (.int 1)) (fCons (fC (.int 1)) (fCons (fC (.int 0)) (fNil))))) gMkT) (fNil)))) (fCons (fCall 2 (F_swaps_between ca) (fCons (bndA (fCons (bndA (fCons (fC (.int 1)) (fNil)) gMkL) (fNil)) gMkL) (fCons (bndA (fCons (bndA (fCons (fC (.int 2)) (fNil)) gMkL) (fNil)) gMkL) (fNil)))) (fCons (fCall 2 (F_swaps_between ca) (fCons (bndA (fCons (bndA (fCons (fC (.int 1)) (fNil)) gMkL) (fNil)) gMkL) (fCons (bndA (fCons (bndA (fCons (fC (.int 1)) (fCons (fC (.int 0)) (fNil))) gMkL) (fNil)) gMkL) (fNil)))) (fNil)))) gMkL) (fCons (bndA (fCons (bndA (fCons (bndA (fCons (fC (.int 0)) (fCons (fC (.int 1)) (fNil))) gMkL) (fCons (bndA (fCons (fC (.int 1)) (fCons (fC (.int 0)) (fNil))) gMkL) (fNil))) gMkL) (fCons (fC .none) (fCons (fC .none) (fNil)))) gMkL) (fNil)))) (E d11 vR vC vG vH x6 x7 x9) = .ret w (E d11 vR vC vG vH x6 x7 x9) ∧ w.d = .bool true := by
    have sw : swP 2 2 [[1, 0], [0, 1]] 0 1 1 0 := by decide
    have eb : beh [[1, 0], [0, 1]] 0 1 1 0 = [[0, 1], [1, 0]] := by decide
    have q1 : Fr (F_swapped ca) [gridD [[1, 0], [0, 1]], swD 0 1 1 0] (gridD [[0, 1], [1, 0]]) := by
      have z := (fr_swapped (ca := ca) good22 sw).fr
      rw [eb] at z
      exact z
    have q2 : Fr (F_swaps_between ca) [gridD [[1]], gridD [[2]]] .none := fr_sb_none good1 good2 rfl
    have q3 : Fr (F_swaps_between ca) [gridD [[1]], gridD [[1, 0]]] .none := fr_sb_none good1 good12 rfl
    have s8 : Fr (F_l_same 8) [.list [gridD [[0, 1], [1, 0]], .none, .none], .list [gridD [[0, 1], [1, 0]], .none, .none]] (.bool true) := same_list 7 (by show 3 ≤ 1000; decide) fun y hy => by
      simp only [List.mem_cons, List.not_mem_nil, or_false, or_self] at hy
      rcases hy with rfl | rfl
      · have G3 : Good 2 2 (beh [[1, 0], [0, 1]] 0 1 1 0) := good22.beh sw
        rw [eb] at G3
        exact same_grid 4 G3
      · exact same_none 6
    have lst : ∀ (a b : Int) (ρ : DL.Env), Ev (bndA (fCons (fC (.int a)) (fCons (fC (.int b)) (fNil))) gMkL) ρ (rowD [a, b]) := fun a b ρ => Ev.bndA (k := gMkL) (w := .frs [.int a, .int b]) (.cons .k (.cons .k .nil)) rfl
    have one : ∀ (a : Int) (ρ : DL.Env), Ev (bndA (fCons (bndA (fCons (fC (.int a)) (fNil)) gMkL) (fNil)) gMkL) ρ (gridD [[a]]) := fun a ρ => Ev.bndA (k := gMkL) (w := .frs [rowD [a]]) (.cons (Ev.bndA (k := gMkL) (w := .frs [.int a]) (.cons .k .nil) rfl) .nil) rfl
    have two : ∀ (a b c d : Int) (ρ : DL.Env), Ev (bndA (fCons (bndA (fCons (fC (.int a)) (fCons (fC (.int b)) (fNil))) gMkL) (fCons (bndA (fCons (fC (.int c)) (fCons (fC (.int d)) (fNil))) gMkL) (fNil))) gMkL) ρ (gridD [[a, b], [c, d]]) := fun a b c d ρ => Ev.bndA (k := gMkL) (w := .frs [rowD [a, b], rowD [c, d]]) (.cons (lst a b ρ) (.cons (lst c d ρ) .nil)) rfl
    refine ret_s (Ev.s (.call (.cons (Ev.bndA (k := gMkL) (w := .frs [gridD [[0, 1], [1, 0]], .none, .none]) (.cons (.call (.cons (two 1 0 0 1 _) (.cons (Ev.bndA (k := gMkT) (w := .pu (swD 0 1 1 0)) (.cons .k (.cons .k (.cons .k (.cons .k .nil)))) rfl) .nil)) q1 rfl) (.cons (.call (.cons (one 1 _) (.cons (one 2 _) .nil)) q2 rfl) (.cons (.call (.cons (one 1 _) (.cons (Ev.bndA (k := gMkL) (w := .frs [rowD [1, 0]]) (.cons (lst 1 0 _) .nil) rfl) .nil)) q3 rfl) .nil))) rfl) (.cons (Ev.bndA (k := gMkL) (w := .frs [gridD [[0, 1], [1, 0]], .none, .none]) (.cons (two 0 1 1 0 _) (.cons .k (.cons .k .nil))) rfl) .nil)) s8 rfl))
  obtain ⟨w, fin, hw⟩ := fin
  have hw2 : w = .pu (.bool true) := by
    cases w with
    | pu d => rw [show d = _ from hw]
    | frs es => cases hw
  rw [hw2] at fin
  refine ⟨E d11 vR vC vG vH x6 x7 x9, ?_⟩
  show g_lawT K ca (E ds none none none none none none none) = _
  unfold g_lawT
  rw [seq_nx s1, seq_nx s2, seq_nx s3, seq_nx s4, seq_nx s5, seq_nx s6, seq_nx s7]
  exact fin
end
end K54
/-! E13: law, joined. -/
namespace K54
open PySem L2 PyProof.Rows DL
section
variable {Y : Cx}
theorem pe_gen (B : Bl Y.mg) {fc fg : Addr} {fdc fdg : FuncData} (F : FunD Y.K "_law_cell" "_law_cell" (defArgs s_l_cell) (defBody s_l_cell) (defScope s_l_cell) [] [] fc fdc) (hm : Y.mg "_law_cell" = some (.ref fc)) (Fg : FunD Y.K "_law_generator" "_law_generator" (defArgs s_l_generator) (defBody s_l_generator) (defScope s_l_generator) [] [] fg fdg) (hmg : Y.mg "_law_generator" = some (.ref fg))
    {k i j : Nat} {a : Str} {p p1 p2 pos : Pos} (hgd : Y.A.guards = some []) (hr : Room (k + 2) Y.A) (ha : PE Y (.Name a p1) (tVar i))
    (hg : Gl Y "_law_generator" := by rfl) (he : starEach [.Name a p1, .Constant (.int 0) j p2] Y.env = (false, eval (.Name a p1) Y.env) :: starEach [.Constant (.int 0) j p2] Y.env := by rfl) (he2 : starEach [.Constant (.int 0) j p2] Y.env = (false, eval (.Constant (.int 0) j p2) Y.env) :: starEach [] Y.env := by rfl) (hpl : (backTo pos (starEach [.Constant (.int 0) j p2] Y.env)).any (·.1) = false := by rfl) :
    PE Y (.Call (.Name "_law_generator" p) [.Name a p1, .Constant (.int 0) j p2] [] pos) (fun σ H Q => ∃ l ns ds ρ', σ[i]? = some (some (.ref l)) ∧ SqL Y.K H l (ns.map V.int) ∧ LamX.Tabs (TbK Y.K) H ∧ g_l_generatorT [none, some (.pu (.int 0)), some (.pu (.int (cell0 ns)))] = .ret (.frs ds) ρ' ∧ ∀ p xs H', Gr Y.K H H' → H p = none → H' p = some (.lst xs) → Rps Y.K (hid [p] H') xs ds → Q (.ref p) H') := by
  refine ⟨fun pins s σ H Q I ⟨l, ns, ds, ρ', h1, hS, tb, hres, q⟩ => ?_⟩
  refine wpAny_Call_Name_kw (ld_glob I hg hmg ?_ (by decide))
  refine PySem.W.callWith_K (h₀ := Y.base) I.ok.mod.kin Fg.kp (thn ((pa_cons ha (pa_cons pe_int pa_nil he2) he).run pos pins s σ H (fun vs H1 => vs = [.ref l, .int 0] ∧ H1 = H) I ⟨.ref l, h1, rfl, rfl⟩) fun us s1 ⟨vs, H1, I1, r, e1, e2⟩ => ⟨I1.kIn, ?_⟩) he hpl
  subst e1
  rw [e2] at I1
  cases r with
  | cons r1 r =>
    cases r with
    | cons r2 r =>
      cases r
      obtain rfl := r1
      obtain ⟨t, rfl⟩ := r2
      refine wpAny_call (codeAny_mono (generator_run (Q := Q) (E := L2.E0) B F hm Fg hgd hr I1.env0 hS tb hres q) fun r s' hq => ?_)
      cases r with
      | error e => exact (passL (X := Y) pins σ H s1 e s' I1 hq)
      | ok fl =>
        cases fl with
        | ret u => exact I1.after hq
        | next => exact False.elim hq
        | brk => exact False.elim hq
        | cont => exact False.elim hq
end
section
variable {P : Program} {w : World} {K : PySem.W.Frag} {mg : Str → Option Value} {base : Heap}
theorem srep_gen {p : Addr} {xs : List V} {ds : List D} {H : Hp} {l : Addr} (tb : LamX.Tabs (TbK K) H) (hl : H p = some (.lst xs)) (r : Rps K (hid [p] H) xs ds) : SRep K (fun _ => 0) [] H [some (.ref l), some (.ref p), none, none, none, none, none, none, none, none] [none, some (.own 0 ds), none, none, none, none, none, none, none, none] [p] := by
  have one : ∀ {i : Nat} {s : Sl}, ([none, some (.own 0 ds), none, none, none, none, none, none, none, none] : DL.Env)[i]? = some (some s) → i = 1 ∧ s = .own 0 ds := fun {i s} z => by
    match i with
    | 0 => simp at z
    | 1 => exact ⟨rfl, by simpa using z.symm⟩
    | 2 => simp at z
    | 3 => simp at z
    | 4 => simp at z
    | 5 => simp at z
    | 6 => simp at z
    | 7 => simp at z
    | 8 => simp at z
    | 9 => simp at z
    | n + 10 => simp at z
  refine ⟨fun i m d q => ?_, fun i t es q => ?_, fun i j t u es fs q hij e1 e2 => ?_, fun a z => ?_, rfl, fun a z => by simp, tb, fun i g q => ?_⟩
  · cases (one q).2
  · obtain ⟨rfl, e⟩ := one q
    cases e
    exact ⟨p, xs, rfl, by simp, hl, by simpa using r, .inl rfl⟩
  · exact absurd ((one e1).1.trans (one e2).1.symm) hij
  · have z : a = p := by simpa using z
    rw [z, hl]
    exact fun z => nomatch z
  · cases (one q).2
theorem law_run (B : Bl mg) {fc fg fl cd : Addr} {fdc fdg fdl : FuncData} (F : FunD K "_law_cell" "_law_cell" (defArgs s_l_cell) (defBody s_l_cell) (defScope s_l_cell) [] [] fc fdc) (hm : mg "_law_cell" = some (.ref fc)) (Fg : FunD K "_law_generator" "_law_generator" (defArgs s_l_generator) (defBody s_l_generator) (defScope s_l_generator) [] [] fg fdg) (hmg : mg "_law_generator" = some (.ref fg))
    (Fl : FunD K "law" "law" (defArgs s_law) (defBody s_law) (defScope s_law) [] [] fl fdl) (hcd : fdl.code = .ref cd) {g : DL.Env → RS}
    (hb : ∀ (A : Around) (outer : List PySem.Env) (s : Shared) (H : Hp) (E : XK), Cn (fx P w K mg base N_law "law" s_law fl (.ref cd) A outer s H E) E 12 → DSs (fx P w K mg base N_law "law" s_law fl (.ref cd) A outer s H E) E ((defBody s_law).drop 1) g)
    {A : Around} {outer : List PySem.Env} {s : Shared} {H : Hp} {l : Addr} {ns : List Int} {Q : VK} {E : XK} {ds : List D} {ρ' ρ2 : DL.Env} (hgd : A.guards = some []) (hr : Room 13 A) (e0 : Env0 P w K mg base A outer s H) (hS : SqL K H l (ns.map V.int)) (tb : LamX.Tabs (TbK K) H)
    (hgen : g_l_generatorT [none, some (.pu (.int 0)), some (.pu (.int (cell0 ns)))] = .ret (.frs ds) ρ') (hres : g [none, some (.own 0 ds), none, none, none, none, none, none, none, none] = .ret (.pu (.bool true)) ρ2) (hq : ∀ H', Q (.bl true) H') :
    codeAny (model P w) A (.call (.ref fl) ⟨[.ref l], []⟩) (CR (L2.CX P w) outer P w H s Q E) s := by
  obtain ⟨oc, od, kV, doc, pm, an, cdv, ct, osl, rfl, lk, hcd2⟩ := (Fun.ofD Fl).ex
  obtain rfl : cdv = .ref cd := hcd
  refine LamX.run_ofS (N := N_law) (ps := ["script"]) (us := [.ref l]) (vs := [.ref l]) lk hcd2 sc_law (hr.mono (j := 12 + 1) (Nat.le_refl _)) e0 (.of_eq (by first | rfl | with_unfolding_all rfl)) (.cons rfl .nil) rfl fun hr2 => ?_
  have nd := sc_law.nd
  have cn : Cn (fx P w K mg base N_law "law" s_law fl (.ref cd) A outer s H E) E 12 := ⟨hgd, hr2, passes_call (W := fun cls d _ H => E cls d H) (takes_of rfl rfl rfl rfl) (fun _ _ _ _ h => h), takes_of rfl rfl rfl rfl, rfl⟩
  refine ⟨_, pss_cons (ps_set nd (i := 1) rfl (by first | exact .inl rfl | exact .inr rfl) (pe_gen (Y := fx P w K mg base N_law "law" s_law fl (.ref cd) A outer s H E) (k := 10) B F hm Fg hmg hgd hr2 (pv 0))) (hb A outer s H E cn).pss, ?_⟩
  refine ⟨l, ns, ds, ρ', rfl, hS, tb, hgen, fun p xs H2 gg hp hl r => ?_⟩
  refine ⟨fun _ => 0, [], [p], _, srep_gen (gg.tb tb) hl r, ?_⟩
  rw [hres]
  intro v σ3 H3 P3 t3 S3 r3
  rw [rp_bool r3]
  exact hq H3
end

end K54
/-! E14: the end, with the caller's guards known. -/
namespace K54
open PySem PySem.Spec L2 PyProof.Rows DL
/-- the script at a, tracked where K lacks it, and the empty tables of T -/
def startH (K : PySem.W.Frag) (T : List Addr) (a : Addr) (vs : List Value) (ns : List Int) : Hp := fun b =>
  if b ∈ T then some (.tbl #[]) else if b = a then (match K.lookup a with
    | none => some (.frz { cls := .type "list", data := .seq vs.toArray } (.lst (ns.map V.int)))
    | some _ => none) else none
section
variable {K : PySem.W.Frag} {T : List Addr} {a : Addr} {vs : List Value} {ns : List Int}
theorem startH_tab {b : Addr} (h : b ∈ T) : startH K T a vs ns b = some (.tbl #[]) := if_pos h
theorem startH_cases (b : Addr) : startH K T a vs ns b = none ∨ (b ∈ T ∧ startH K T a vs ns b = some (.tbl #[])) ∨ (b = a ∧ b ∉ T ∧ K.lookup a = none ∧ startH K T a vs ns b = some (.frz { cls := .type "list", data := .seq vs.toArray } (.lst (ns.map V.int)))) := by
  by_cases h : b ∈ T
  · exact .inr (.inl ⟨h, if_pos h⟩)
  · by_cases e : b = a
    · cases q : K.lookup a with
      | none => exact .inr (.inr ⟨e, h, rfl, by unfold startH; rw [if_neg h, if_pos e, q]⟩)
      | some o => exact .inl (by unfold startH; rw [if_neg h, if_pos e, q])
    · exact .inl (by unfold startH; rw [if_neg h, if_neg e])
end
section
variable {P : Program} {w : World} {K : PySem.W.Frag} {mg mb : Str → Option Value} {s₁ : Shared} {T : List Addr} {a : Addr} {vs : List Value} {ns : List Int}
theorem startH_hok (hT : ∀ b ∈ T, s₁.heap.get? b = some { cls := .none, data := .fields #[] }) (ha : s₁.heap.get? a = some { cls := .type "list", data := .seq vs.toArray }) (hi : IntsAre vs ns) (hl : ns.length ≤ sizeLine) : HOk P w (startH K T a vs ns) s₁.heap := fun b u z => by
  rcases startH_cases (K := K) (T := T) (a := a) (vs := vs) (ns := ns) b with e | ⟨hb, e⟩ | ⟨rfl, hb, q, e⟩
  · rw [e] at z; cases z
  · rw [e] at z; cases z; exact hT b hb
  · rw [e] at z; cases z
    exact ⟨ha, by rw [List.length_map]; exact hl, vs, _, vals_ints hi, ha⟩
theorem startH_sql (KX : K.In s₁.heap) (ha : s₁.heap.get? a = some { cls := .type "list", data := .seq vs.toArray }) (hi : IntsAre vs ns) (hl : ns.length ≤ sizeLine) (hT : a ∉ T) : SqL K (startH K T a vs ns) a (ns.map V.int) := by
  cases q : K.lookup a with
  | none => exact .inl (.inr ⟨_, by unfold startH; rw [if_neg hT, if_pos rfl, q]⟩)
  | some o =>
    have e := KX a o q
    rw [ha] at e
    cases e
    exact .inr ⟨_, vs.toArray, _, q, rfl, rfl, rfl, by rw [List.size_toArray, hi.length]; exact hl, by simpa using vals_ints hi⟩
theorem startH_free (hT : ∀ b ∈ T, s₁.heap.get? b = some { cls := .none, data := .fields #[] }) (ha : s₁.heap.get? a = some { cls := .type "list", data := .seq vs.toArray }) {b : Addr} {o : Obj} (e : s₁.heap.get? b = some o) (h1 : ∀ us n, o.data ≠ .seq us n) (h2 : o.data ≠ .fields #[]) : startH K T a vs ns b = none := by
  rcases startH_cases (K := K) (T := T) (a := a) (vs := vs) (ns := ns) b with z | ⟨hb, _⟩ | ⟨rfl, _⟩
  · exact z
  · rw [hT b hb] at e; cases e; exact absurd rfl h2
  · rw [ha] at e; cases e; exact absurd rfl (h1 _ _)
theorem startH_ns (hT : ∀ b ∈ T, s₁.heap.get? b = some { cls := .none, data := .fields #[] }) (ha : s₁.heap.get? a = some { cls := .type "list", data := .seq vs.toArray }) {b : Addr} {m : Str → Option Value} (h : s₁.heap.Ns b m) : (hidT s₁.heap (startH K T a vs ns)).Ns b m := by
  obtain ⟨o, es, ep, e, d, r⟩ := h
  exact ⟨o, es, ep, hidT_get e (startH_free hT ha e (fun us n z => by rw [d] at z; cases z) fun z => by rw [d] at z; cases z), d, r⟩
theorem startH_kin (KX : K.In s₁.heap) (nT : ∀ b ∈ T, K.lookup b = none) : K.In (hidT s₁.heap (startH K T a vs ns)) := fun b o e => hidT_get (KX b o e) (by
  rcases startH_cases (K := K) (T := T) (a := a) (vs := vs) (ns := ns) b with z | ⟨hb, _⟩ | ⟨rfl, _, q, _⟩
  · exact z
  · rw [nT b hb] at e; cases e
  · rw [q] at e; cases e)
theorem startH_env (KX : K.In s₁.heap) (nT : ∀ b ∈ T, K.lookup b = none) (hns : s₁.heap.Ns mainGlobals mg) (hb : s₁.heap.Ns builtinsNs mb) (hbb : ∀ x : Str, x ≠ "__name__" → mb x = bootBuiltins x) (hlim : s₁.heap.NoLimit) (hg : s₁.gens = #[])
    (hT : ∀ b ∈ T, s₁.heap.get? b = some { cls := .none, data := .fields #[] }) (ha : s₁.heap.get? a = some { cls := .type "list", data := .seq vs.toArray }) (hi : IntsAre vs ns) (hl : ns.length ≤ sizeLine) : Env0 P w K mg (hidT s₁.heap (startH K T a vs ns)) callerA [] s₁ (startH K T a vs ns) :=
  ⟨rfl, ⟨startH_kin KX nT, startH_ns hT ha hns, ⟨mb, startH_ns hT ha hb, hbb⟩, let ⟨mc, h1, h2⟩ := hlim; ⟨mc, startH_ns hT ha h1, h2⟩⟩, fun b o e => of_hidT e, Nat.le_of_eq (hidT_size _ _), trivial, fun b z => absurd (show b ∈ ([] : List Addr) from z) (by simp), startH_hok hT ha hi hl, .of_eq hg⟩
theorem startH_tabB {c Pt : Addr} (hP : Pt ∈ T) (hns : s₁.heap.Ns mainGlobals mg) (C : PySem.W.CodeHd s₁.heap c Pt) (hbm : ∃ (bm : Addr) (ob : Obj), mg "__builtins__" = some (.ref bm) ∧ bm ≠ builtinsNs ∧ s₁.heap.get? bm = some ob ∧ ob.cls = .type "module" ∧ ob.dict = some builtinsNs ∧ ob.data = .plain)
    (hT : ∀ b ∈ T, s₁.heap.get? b = some { cls := .none, data := .fields #[] }) (ha : s₁.heap.get? a = some { cls := .type "list", data := .seq vs.toArray }) : LamX.TabB (hidT s₁.heap (startH K T a vs ns)) mg c Pt := by
  refine ⟨?_, ?_, fun z => ?_⟩
  · obtain ⟨o, us, file, tf, flags, tg, inF, text, tt, e1, r1, r2, r3, r4, r5, r6, r7, r8, hne⟩ := C
    refine ⟨o, us, file, tf, flags, tg, inF, text, tt, hidT_get e1 (startH_free hT ha e1 (fun us n z => ?_) fun z => ?_), r1, r2, r3, r4, r5, r6, r7, r8, hne⟩
    · rw [r2] at z; cases z
    · rw [r2] at z
      cases z
      simp at r3
  · obtain ⟨bm, ob, b1, b2, b3, b4, b5, b6⟩ := hbm
    refine ⟨bm, ob, b1, b2, fun q => ?_, fun q => ?_, hidT_get b3 (startH_free hT ha b3 (fun us n z => ?_) fun z => ?_), b4, b5, b6⟩
    · obtain ⟨o, es, ep, e, hd, _⟩ := hns
      rw [q, e] at b3; cases b3
      rw [hd] at b6; cases b6
    · rw [q, hT _ hP] at b3; cases b3; cases b6
    · rw [b6] at z; cases z
    · rw [b6] at z; cases z
  · obtain ⟨o, es, ep, e, hd, _⟩ := hns
    rw [z, hT _ hP] at e; cases e; cases hd
theorem end_call {fa : Addr} (hT : ∀ b ∈ T, s₁.heap.get? b = some { cls := .none, data := .fields #[] }) (C : ∀ b ∈ T, ∃ c, PySem.W.CodeHd s₁.heap c b) (ha : s₁.heap.get? a = some { cls := .type "list", data := .seq vs.toArray }) (hi : IntsAre vs ns) (hl : ns.length ≤ sizeLine)
    (F : codeAny (model P w) callerA (.call (.ref fa) ⟨[.ref a], []⟩) (CR (L2.CX P w) [] P w (startH K T a vs ns) s₁ (fun v _ => v = .bl true) L2.E0) s₁) :
    codeAny (model P w) callerA (.call (.ref fa) ⟨[.ref a], []⟩) (fun r s' => r = .ok (.ret (.bool true)) ∧ OldK s₁.heap s'.heap ∧ s'.os = s₁.os ∧ AllBare s'.gens) s₁ := by
  refine codeAny_mono F fun r s' h => ?_
  cases r with
  | error e =>
    obtain ⟨_, _, _, _, _, _, _, _, _, _, _, _, _, _, _, _, z⟩ := h
  | ok fl =>
    cases fl with
    | next => exact False.elim h
    | brk => exact False.elim h
    | cont => exact False.elim h
    | ret u =>
      obtain ⟨v, H', os, bare, un, hok', r', q⟩ := h
      have q' : v = .bl true := q
      subst q'
      obtain rfl : u = Value.bool true := r'
      have key : ∀ b o, b ∉ T → s₁.heap.get? b = some o → s'.heap.get? b = some o := fun b o nb e => by
        rcases startH_cases (K := K) (T := T) (a := a) (vs := vs) (ns := ns) b with z | ⟨z, _⟩ | ⟨rfl, _, _, z⟩
        · exact un.keep b o e z (by intro w; exact absurd (show b ∈ ([] : List Addr) from w) (by simp)) (by simp)
        · exact absurd z nb
        · obtain ⟨e2, _⟩ := hok' b _ (un.frzs b _ _ z)
          rw [ha] at e; cases e
          exact e2
      have grown : ∀ b ∈ T, ∃ more : Array Value, s'.heap.get? b = some { cls := .none, data := .fields more } := fun b hb => by
        obtain ⟨more, z⟩ := un.tbls b #[] (startH_tab hb)
        exact ⟨_, hok' b _ z⟩
      refine ⟨rfl, ⟨fun b o e => ?_, fun b o e => ?_⟩, os, bare⟩
      · by_cases hb : b ∈ T
        · obtain ⟨more, hm⟩ := grown b hb
          obtain ⟨c, Cc⟩ := C b hb
          rw [hT b hb] at e
          cases e
          exact .inr (.inl ⟨(Cc.tab (hT b hb)).isCodeTable, rfl, #[], more, rfl, by rw [Array.empty_append]; exact hm⟩)
        · exact .inl (key b o hb e)
      · by_cases hb : b ∈ T
        · obtain ⟨more, hm⟩ := grown b hb
          exact ⟨_, hm⟩
        · exact ⟨o, key b o hb e⟩
end
end K54
/-! H1: the head: facts, the run. -/
namespace K54
open PySem PySem.Spec PyProof.Rows L2 DL
abbrev PR : Program := PySem.Challenge.pw_addsup_k54_whole_swaps_join_all_grids
def dfn (x : Str) (i : Nat) : He.DefD := ⟨(x, none), x, x, defArgs (top i), defBody (top i), defScope (top i), [], []⟩
def fnl0 : List He.DefD := [dfn "is_whole" 18, dfn "is_count" 20, dfn "are_counts" 23, dfn "is_grid_of" 24, dfn "is_any_grid" 25, dfn "check_grid" 26, dfn "sums_of" 27, dfn "is_swap" 28, dfn "behind" 29, dfn "swapped" 30, dfn "next_swap" 31, dfn "swaps_between" 32, dfn "are_swaps_between" 33, dfn "_law_hash" 35, dfn "_law_random" 36, dfn "_law_cell" 37, dfn "_law_generator" 38, dfn "_law_pick" 39, dfn "_law_same" 40, dfn "_law_caught" 41, dfn "_law_alike" 42, dfn "_law_refused" 43, dfn "_law_all_refused" 44, dfn "_law_is_count" 45, dfn "_law_margins" 46, dfn "_law_grid" 47, dfn "_law_swap_ok" 48, dfn "_law_behind" 49, dfn "_law_wrong_grids" 50, dfn "_law_are_swaps" 51]
def fnl1 : List He.DefD := [dfn "_law_drawn_swap" 52, dfn "_law_swaps_right" 53, dfn "_law_pair_right" 54, dfn "law" 55]
def fnl : List He.DefD := fnl0 ++ fnl1
def fal0 : List He.Fa := [.glo "is_whole", .glo "is_count", .glo "are_counts", .glo "is_grid_of", .glo "is_any_grid", .glo "check_grid", .glo "sums_of", .glo "is_swap", .glo "behind", .glo "swapped", .glo "next_swap", .glo "swaps_between", .glo "are_swaps_between", .glo "_law_hash", .glo "_law_random", .glo "_law_cell", .glo "_law_generator", .glo "_law_pick", .glo "_law_same", .glo "_law_caught", .glo "_law_alike", .glo "_law_refused", .glo "_law_all_refused", .glo "_law_is_count", .glo "_law_margins", .glo "_law_grid", .glo "_law_swap_ok", .glo "_law_behind", .glo "_law_wrong_grids", .glo "_law_are_swaps"]
def fal1 : List He.Fa := [.glo "_law_drawn_swap", .glo "_law_swaps_right", .glo "_law_pair_right", .glo "law", .glo "SumError", .glo "InvalidLayout", .glo "InvalidTable", .glo "InvalidBounds", .glo "InvalidReport", .glo "InvalidPart", .glo "InvalidNumber", .glo "InvalidNames", .glo "InvalidText", .glo "InvalidLot", .glo "InvalidWeights", .glo "InvalidLines", .glo "InvalidMargins", .glo "InvalidEdit", .glo "Unlike", .glo "TooMany", .free "len", .free "isinstance", .free "int", .free "bool", .free "str", .free "list", .free "tuple", .free "max", .free "sum", .free "enumerate"]
def fal2 : List He.Fa := [.free "range", .free "repr", .free "super", .int "MOST_LINES" 6]
def fal : List He.Fa := fal0 ++ fal1 ++ fal2
def tfl : List He.Defn := [("law", none), ("_law_swaps_right", none)]
/-- the i-th statement of the top, a class: its only def -/
def ini (i : Nat) : Stmt := match top i with
  | .ClassDef (body := b) .. => b.getD 0 (.Pass ⟨0, 0, 0, 0⟩)
  | _ => .Pass ⟨0, 0, 0, 0⟩
def exIx : List Nat := [2, 3, 4, 5, 6, 7, 8, 9, 10, 11, 12, 13, 14, 15, 16]
def exvs : List DLX.ExV := exIx.map fun i => DLX.exVal (defArgs (ini i)) (defBody (ini i))
def obsX1 (K : PySem.W.Frag) : List DLX.ExV := exNames.map fun n => DLX.exV PR K (He.ga K n)
def exB (K : PySem.W.Frag) : Bool := decide ((He.cT K ("law", none)).2 ≠ (He.cT K ("_law_swaps_right", none)).2) && (decide (PySem.W.nsIn K PySem.cStatics "thirdparty.any" = some none) && (exNames.all fun n => DLX.xB1 K (He.ga K n) && (exkB K (He.ga K n) && (decide (PySem.W.exmOne K (.ref (He.ga K n)) (.ref (He.ga K "SumError")) = some true) && exNames.all fun m => decide (PySem.W.kitOne K (.ref (He.ga K n)) (.ref (He.ga K m)) = some (decide (n = m)))))))
def asW (g : Addr → Option Obj) (n : Nat) : List Addr := PySem.cStatics :: He.asD g n
/-! the Hook: that of HeadHook4, and the exceptions' __init__ -/
structure Says (w : World) (h : Heap) (K : PySem.W.Frag) : Prop where
  x : He.SaysX fal fnl [] tfl exB w h K
  e : obsX1 K = exvs
abbrev AlZ : Type := He.AlX × List DLX.ExV
def obsK (g : Addr → Option Obj) (K : PySem.W.Frag) : AlZ := ((He.obsT fal fnl [] K, exB K && He.tabsB g tfl K), obsX1 K)
def obsZ (n : Nat) (g : Addr → Option Obj) : AlZ := obsK g (He.frT g (asW g n))
theorem says_of {as : List Addr} {w : World} {h : Heap} (e : obsK h.get? (He.frT h.get? as) = (He.valX fnl [] w, exvs)) : Says w h (He.frT h.get? as) := by
  have e1 : He.obsT fal fnl [] (He.frT h.get? as) = He.valT fnl [] w := congrArg (fun z : AlZ => z.1.1) e
  have e2 : (exB (He.frT h.get? as) && He.tabsB h.get? tfl (He.frT h.get? as)) = true := congrArg (fun z : AlZ => z.1.2) e
  obtain ⟨h1, h2⟩ := He.ba e2
  have key : ∀ p ∈ tfl, PySem.W.codeHdIn (He.frT h.get? as) (He.cT (He.frT h.get? as) p).1 (He.cT (He.frT h.get? as) p).2 = true ∧ ∃ o, h.get? (He.cT (He.frT h.get? as) p).2 = some o ∧ He.emptyTab o = true := fun p hp => by
    obtain ⟨h3, h4⟩ := He.ba (List.all_eq_true.mp h2 p hp)
    refine ⟨h3, ?_⟩
    cases q : h.get? (He.cT (He.frT h.get? as) p).2 with
    | none =>
      rw [q] at h4
      cases h4
    | some o =>
      rw [q] at h4
      exact ⟨o, rfl, h4⟩
  exact ⟨⟨e1, h1, fun p hp => (key p hp).1, fun p hp => by
    obtain ⟨_, o, q, z⟩ := key p hp
    exact He.frT_none q z, fun p hp => by
    obtain ⟨_, o, q, z⟩ := key p hp
    rw [q, He.emptyTab_eq z]⟩, congrArg (fun z : AlZ => z.2) e⟩
def hookZ (n : Nat) : PySem.W.Hook where
  α := AlZ
  obs := fun s => obsZ n s.heap.get?
  val := fun w => (He.valX fnl [] w, exvs)
  says := fun w h => ∃ K : PySem.W.Frag, K.In h ∧ Says w h K
  of := fun _ _ e => ⟨_, He.frT_in, says_of e⟩
  keeps := fun _ _ _ ⟨K, hK, c⟩ k => ⟨K, PySem.W.Frag.In.keeps hK k, ⟨c.x.t, c.x.more, c.x.hd, c.x.out, fun p hp => k _ _ (c.x.empty p hp)⟩, c.e⟩
theorem obsZ_eq {n : Nat} {g : Addr → Option Obj} {s : Shared} (h : ∀ a, g a = s.heap.get? a) : obsZ n g = (hookZ n).obs s := by
  have e : g = s.heap.get? := funext h
  rw [e] <;> rfl
abbrev RR : PySem.W.OpenRow := PySem.W.OpenLaw.row PySem.Challenge.rw_addsup_k54_whole_swaps_join_all_grids
abbrev QV : Program := PySem.W.view RR.prog [55]
abbrev hk : PySem.W.Hook := hookZ 5
def ob (s : PySem.W.SharedT) : AlZ := obsZ 5 (HandSHeadRun.getT s)
theorem ob_eq (s : PySem.W.SharedT) : ob s = hk.obs s.abs := obsZ_eq (HandSHeadRun.getT_eq s)
def loose0 : List Str := ["SumError", "InvalidLayout", "InvalidTable", "InvalidBounds", "InvalidReport", "InvalidPart", "InvalidNumber", "InvalidNames", "InvalidText", "InvalidLot", "InvalidWeights", "InvalidLines", "InvalidMargins", "InvalidEdit", "Unlike", "TooMany", "is_whole", "is_count", "are_counts", "is_grid_of", "is_any_grid", "check_grid", "sums_of", "is_swap", "behind", "swapped", "next_swap", "swaps_between", "are_swaps_between", "_law_hash"]
def loose1 : List Str := ["_law_random", "_law_cell", "_law_generator", "_law_pick", "_law_same", "_law_caught", "_law_alike", "_law_refused", "_law_all_refused", "_law_is_count", "_law_margins", "_law_grid", "_law_swap_ok", "_law_behind", "_law_wrong_grids", "_law_are_swaps", "_law_drawn_swap", "_law_swaps_right", "_law_pair_right", "MOST_LINES"]
def loose : List Str := loose0 ++ loose1
theorem run (w : World) : HandSHeadRun.RunEq RR QV hk ob 40000 loose w := by
  intro os
  kernel_rfl
end K54
/-! H2: the facts of the head, and the end. -/
namespace K54
open PySem PySem.Spec PyProof.Rows L2 DL GM
section
variable {w : World} {h : Heap} {K : PySem.W.Frag} {mg : Str → Option Value}
theorem fnAt (KX : K.In h) (G : h.Ns mainGlobals mg) (c : Says w h K) (x : Str) (i k l : Nat) (h1 : fnl[k]? = some (dfn x i)) (h2 : fal[l]? = some (.glo x)) : ∃ fd, FunD K x x (defArgs (top i)) (defBody (top i)) (defScope (top i)) [] [] (He.ga K x) fd ∧ mg x = some (.ref (He.ga K x)) := by
  obtain ⟨fd, F⟩ := c.x.t.d.def_ k (d := dfn x i) h1
  exact ⟨fd, F, He.glo_ok KX G (c.x.t.d.fact l (f := .glo x) h2)⟩
theorem code_of {x : Str} {i : Nat} {fd : FuncData} (F : FunD K x x (defArgs (top i)) (defBody (top i)) (defScope (top i)) [] [] (He.ga K x) fd) : fd.code = .ref (He.cT K (x, none)).1 := by
  obtain ⟨oc, od, kV, doc, pm, an, cdv, ct, osl, rfl, lk, hcd⟩ := (Fun.ofD F).ex
  obtain ⟨cd, e⟩ := He.codeIn_ref hcd
  have z := He.codeOf_eq (K := K) (p := (x, none)) lk (c := cd) e
  show cdv = .ref (He.codeOf K (x, none))
  rw [z]
  exact e
theorem iniA : ∀ i ∈ exIx, ∃ (p1 p2 p3 : Pos) (j : Nat), defArgs (ini i) = DLX.xA p1 p2 p3 j := fun i hi => by
  simp only [exIx, List.mem_cons, List.not_mem_nil, or_false] at hi
  rcases hi with rfl | rfl | rfl | rfl | rfl | rfl | rfl | rfl | rfl | rfl | rfl | rfl | rfl | rfl | rfl <;> exact ⟨_, _, _, _, rfl⟩
theorem iniB : ∀ i ∈ exIx, ∃ a b c d e f g h i2 k : Pos, defBody (ini i) = DLX.xB a b c d e f g h i2 k ∧ (c.endLine == e.line) = true := fun i hi => by
  simp only [exIx, List.mem_cons, List.not_mem_nil, or_false] at hi
  rcases hi with rfl | rfl | rfl | rfl | rfl | rfl | rfl | rfl | rfl | rfl | rfl | rfl | rfl | rfl | rfl <;> exact ⟨_, _, _, _, _, _, _, _, _, _, rfl, rfl⟩
theorem ex_at (e : obsX1 K = exvs) {n : Str} (hn : n ∈ exNames) : ∃ i ∈ exIx, DLX.exV PR K (He.ga K n) = DLX.exVal (defArgs (ini i)) (defBody (ini i)) := by
  obtain ⟨j, hj, e1⟩ := List.mem_iff_getElem.mp hn
  have z := congrArg (fun l : List DLX.ExV => l[j]?) e
  unfold obsX1 exvs at z
  simp only [List.getElem?_map] at z
  rw [List.getElem?_eq_getElem hj, e1] at z
  cases q : exIx[j]? with
  | none => rw [q] at z; cases z
  | some i =>
    rw [q] at z
    exact ⟨i, List.mem_of_getElem? q, Option.some.inj z⟩
theorem gloEx (KX : K.In h) (G : h.Ns mainGlobals mg) (c : Says w h K) : ∀ n ∈ exNames, mg n = some (.ref (He.ga K n)) := fun n hn => by
  simp only [exNames, List.mem_cons, List.not_mem_nil, or_false] at hn
  rcases hn with rfl | rfl | rfl | rfl | rfl | rfl | rfl | rfl | rfl | rfl | rfl | rfl | rfl | rfl | rfl
  · exact He.glo_ok KX G (c.x.t.d.fact 35 (f := .glo "InvalidLayout") rfl)
  · exact He.glo_ok KX G (c.x.t.d.fact 36 (f := .glo "InvalidTable") rfl)
  · exact He.glo_ok KX G (c.x.t.d.fact 37 (f := .glo "InvalidBounds") rfl)
  · exact He.glo_ok KX G (c.x.t.d.fact 38 (f := .glo "InvalidReport") rfl)
  · exact He.glo_ok KX G (c.x.t.d.fact 39 (f := .glo "InvalidPart") rfl)
  · exact He.glo_ok KX G (c.x.t.d.fact 40 (f := .glo "InvalidNumber") rfl)
  · exact He.glo_ok KX G (c.x.t.d.fact 41 (f := .glo "InvalidNames") rfl)
  · exact He.glo_ok KX G (c.x.t.d.fact 42 (f := .glo "InvalidText") rfl)
  · exact He.glo_ok KX G (c.x.t.d.fact 43 (f := .glo "InvalidLot") rfl)
  · exact He.glo_ok KX G (c.x.t.d.fact 44 (f := .glo "InvalidWeights") rfl)
  · exact He.glo_ok KX G (c.x.t.d.fact 45 (f := .glo "InvalidLines") rfl)
  · exact He.glo_ok KX G (c.x.t.d.fact 46 (f := .glo "InvalidMargins") rfl)
  · exact He.glo_ok KX G (c.x.t.d.fact 47 (f := .glo "InvalidEdit") rfl)
  · exact He.glo_ok KX G (c.x.t.d.fact 48 (f := .glo "Unlike") rfl)
  · exact He.glo_ok KX G (c.x.t.d.fact 49 (f := .glo "TooMany") rfl)
theorem exs_of (KX : K.In h) (G : h.Ns mainGlobals mg) (c : Says w h K) : Exs PR K mg (He.ga K) := by
  have m := c.x.more
  unfold exB at m
  obtain ⟨_, m⟩ := He.ba m
  obtain ⟨m1, m⟩ := He.ba m
  have ma : ∀ n ∈ exNames, _ := fun n hn => List.all_eq_true.mp m n hn
  have tp : (PR.main.scope.names.lookup ("super" : Str)).isSome = false := by decide +kernel
  refine ⟨fun n hn => ?_, fun n hn => ?_, fun n hn k hk => ?_, He.glo_ok KX G (c.x.t.d.fact 34 (f := .glo "SumError") rfl), fun n hn => ?_⟩
  · obtain ⟨i, hi, e⟩ := ex_at c.e hn
    exact DLX.exT_of (gloEx KX G c n hn) (He.free_ok KX G (c.x.t.d.fact 62 (f := .free "super") rfl)) tp (of_decide_eq_true m1) (He.ba (ma n hn)).1 e (iniA i hi) (iniB i hi)
  · exact exkB_ok (He.ba (He.ba (ma n hn)).2).1
  · have z := (He.ba (He.ba (He.ba (ma n hn)).2).2).2
    exact of_decide_eq_true (List.all_eq_true.mp z k hk)
  · exact of_decide_eq_true (He.ba (He.ba (He.ba (ma n hn)).2).2).1
theorem bl_of (KX : K.In h) (G : h.Ns mainGlobals mg) (c : Says w h K) : Bl mg := ⟨He.free_ok KX G (c.x.t.d.fact 50 (f := .free "len") rfl), He.free_ok KX G (c.x.t.d.fact 51 (f := .free "isinstance") rfl), He.free_ok KX G (c.x.t.d.fact 52 (f := .free "int") rfl), He.free_ok KX G (c.x.t.d.fact 53 (f := .free "bool") rfl), He.free_ok KX G (c.x.t.d.fact 54 (f := .free "str") rfl), He.free_ok KX G (c.x.t.d.fact 55 (f := .free "list") rfl), He.free_ok KX G (c.x.t.d.fact 56 (f := .free "tuple") rfl), He.free_ok KX G (c.x.t.d.fact 57 (f := .free "max") rfl), He.free_ok KX G (c.x.t.d.fact 58 (f := .free "sum") rfl), He.free_ok KX G (c.x.t.d.fact 59 (f := .free "enumerate") rfl), He.free_ok KX G (c.x.t.d.fact 60 (f := .free "range") rfl), He.free_ok KX G (c.x.t.d.fact 61 (f := .free "repr") rfl)⟩
theorem tabs_ne (c : Says w h K) : (He.cT K ("law", none)).2 ≠ (He.cT K ("_law_swaps_right", none)).2 := by
  have m := c.x.more
  unfold exB at m
  exact of_decide_eq_true (He.ba m).1
theorem mak_law (c : Says w h K) {base : Heap} (t : LamX.TabB base mg (He.cT K ("law", none)).1 (He.cT K ("law", none)).2) : MakT K mg base "law" := ⟨t, fun p hp e => by
  obtain ⟨q, hq, rfl⟩ := List.mem_map.mp hp
  simp only [lamDefs, List.mem_cons, List.not_mem_nil, or_false] at hq
  rcases hq with rfl | rfl
  · rfl
  · exact absurd e.symm (tabs_ne c)⟩
theorem mak_sr (c : Says w h K) {base : Heap} (t : LamX.TabB base mg (He.cT K ("_law_swaps_right", none)).1 (He.cT K ("_law_swaps_right", none)).2) : MakT K mg base "_law_swaps_right" := ⟨t, fun p hp e => by
  obtain ⟨q, hq, rfl⟩ := List.mem_map.mp hp
  simp only [lamDefs, List.mem_cons, List.not_mem_nil, or_false] at hq
  rcases hq with rfl | rfl
  · exact absurd e (tabs_ne c)
  · rfl⟩
end
def tT (K : PySem.W.Frag) : List Addr := tfl.map fun p => (He.cT K p).2
theorem law_end {w : World} {K : PySem.W.Frag} {mg mb : Str → Option Value} {s₁ : Shared} {a : Addr} {vs : List Value} {ns : List Int} (KX : K.In s₁.heap) (G : s₁.heap.Ns mainGlobals mg) (c : Says w s₁.heap K) (hb : s₁.heap.Ns builtinsNs mb) (hbb : ∀ x : Str, x ≠ "__name__" → mb x = bootBuiltins x) (hlim : s₁.heap.NoLimit) (hg : s₁.gens = #[])
    (hbm : ∃ (bm : Addr) (ob : Obj), mg "__builtins__" = some (.ref bm) ∧ bm ≠ builtinsNs ∧ s₁.heap.get? bm = some ob ∧ ob.cls = .type "module" ∧ ob.dict = some builtinsNs ∧ ob.data = .plain)
    (ha : s₁.heap.get? a = some { cls := .type "list", data := .seq vs.toArray }) (hi : IntsAre vs ns) (hl : ns.length ≤ sizeLine) :
    codeAny (model PR w) callerA (.call (.ref (He.ga K "law")) ⟨[.ref a], []⟩) (fun r s' => r = .ok (.ret (.bool true)) ∧ OldK s₁.heap s'.heap ∧ s'.os = s₁.os ∧ AllBare s'.gens) s₁ := by
  have hT : ∀ b ∈ tT K, s₁.heap.get? b = some { cls := .none, data := .fields #[] } := fun b h => by
    obtain ⟨p, hp, rfl⟩ := List.mem_map.mp h
    exact c.x.empty p hp
  have nT : ∀ b ∈ tT K, K.lookup b = none := fun b h => by
    obtain ⟨p, hp, rfl⟩ := List.mem_map.mp h
    exact c.x.out p hp
  have hC : ∀ p ∈ tfl, PySem.W.CodeHd s₁.heap (He.cT K p).1 (He.cT K p).2 := fun p hp => PySem.W.codeHd_of_K KX (c.x.hd p hp)
  have C : ∀ b ∈ tT K, ∃ c, PySem.W.CodeHd s₁.heap c b := fun b h => by
    obtain ⟨p, hp, rfl⟩ := List.mem_map.mp h
    exact ⟨_, hC p hp⟩
  have aT : a ∉ tT K := fun z => by
    have q := hT a z
    rw [ha] at q
    cases q
  have e0 : Env0 PR w K mg (hidT s₁.heap (startH K (tT K) a vs ns)) callerA [] s₁ (startH K (tT K) a vs ns) := startH_env KX nT G hb hbb hlim hg hT ha hi hl
  have tb : ∀ p ∈ tfl, LamX.TabB (hidT s₁.heap (startH K (tT K) a vs ns)) mg (He.cT K p).1 (He.cT K p).2 := fun p hp => startH_tabB (List.mem_map.mpr ⟨p, hp, rfl⟩) G (hC p hp) hbm hT ha
  have tbs : LamX.Tabs (TbK K) (startH K (tT K) a vs ns) := fun q hq => by
    obtain ⟨p, hp, rfl⟩ := List.mem_map.mp hq
    have hp2 : p.1 ∈ tfl := by
      simp only [lamDefs, List.mem_cons, List.not_mem_nil, or_false] at hp
      rcases hp with rfl | rfl
      · exact .head _
      · exact .tail _ (.head _)
    exact ⟨#[], startH_tab (List.mem_map.mpr ⟨p.1, hp2, rfl⟩), trivial, fun pos cv h => by cases h⟩
  have B := bl_of KX G c
  have X := exs_of KX G c
  obtain ⟨tM, hMOST⟩ := He.int_ok KX G (c.x.t.d.fact 63 (f := .int "MOST_LINES" 6) rfl)
  refine end_call (K := K) hT C ha hi hl ?_
  generalize hbase : hidT s₁.heap (startH K (tT K) a vs ns) = base at e0 tb
  obtain ⟨f_is_whole, F_is_whole, m_is_whole⟩ := fnAt KX G c "is_whole" 18 0 0 rfl rfl
  have d_is_whole := df_is_whole (P := PR) (w := w) (base := base) B  F_is_whole m_is_whole
  obtain ⟨f_is_count, F_is_count, m_is_count⟩ := fnAt KX G c "is_count" 20 1 1 rfl rfl
  have d_is_count := df_is_count (P := PR) (w := w) (base := base) B d_is_whole F_is_count m_is_count
  obtain ⟨f_are_counts, F_are_counts, m_are_counts⟩ := fnAt KX G c "are_counts" 23 2 2 rfl rfl
  have d_are_counts := df_are_counts (P := PR) (w := w) (base := base) B d_is_count hMOST F_are_counts m_are_counts
  obtain ⟨f_is_grid_of, F_is_grid_of, m_is_grid_of⟩ := fnAt KX G c "is_grid_of" 24 3 3 rfl rfl
  have d_is_grid_of := df_is_grid_of (P := PR) (w := w) (base := base) B d_is_count F_is_grid_of m_is_grid_of
  obtain ⟨f_is_any_grid, F_is_any_grid, m_is_any_grid⟩ := fnAt KX G c "is_any_grid" 25 4 4 rfl rfl
  have d_is_any_grid := df_is_any_grid (P := PR) (w := w) (base := base) B d_are_counts d_is_grid_of hMOST F_is_any_grid m_is_any_grid
  obtain ⟨f_check_grid, F_check_grid, m_check_grid⟩ := fnAt KX G c "check_grid" 26 5 5 rfl rfl
  have d_check_grid := df_check_grid (ca := He.ga K) (P := PR) (w := w) (base := base) B d_is_any_grid (X.t "InvalidTable" (by decide)) F_check_grid m_check_grid
  obtain ⟨f_sums_of, F_sums_of, m_sums_of⟩ := fnAt KX G c "sums_of" 27 6 6 rfl rfl
  have d_sums_of := df_sums_of (P := PR) (w := w) (base := base) B  F_sums_of m_sums_of
  obtain ⟨f_is_swap, F_is_swap, m_is_swap⟩ := fnAt KX G c "is_swap" 28 7 7 rfl rfl
  have d_is_swap := df_is_swap (P := PR) (w := w) (base := base) B d_is_count F_is_swap m_is_swap
  obtain ⟨f_behind, F_behind, m_behind⟩ := fnAt KX G c "behind" 29 8 8 rfl rfl
  have d_behind := df_behind (P := PR) (w := w) (base := base) B  F_behind m_behind
  obtain ⟨f_swapped, F_swapped, m_swapped⟩ := fnAt KX G c "swapped" 30 9 9 rfl rfl
  have d_swapped := df_swapped (ca := He.ga K) (P := PR) (w := w) (base := base) B d_check_grid d_is_swap d_behind (X.t "InvalidEdit" (by decide)) F_swapped m_swapped
  obtain ⟨f_next_swap, F_next_swap, m_next_swap⟩ := fnAt KX G c "next_swap" 31 10 10 rfl rfl
  have d_next_swap := df_next_swap (P := PR) (w := w) (base := base) B  F_next_swap m_next_swap
  obtain ⟨f_swaps_between, F_swaps_between, m_swaps_between⟩ := fnAt KX G c "swaps_between" 32 11 11 rfl rfl
  have d_swaps_between := df_swaps_between (ca := He.ga K) (P := PR) (w := w) (base := base) B d_check_grid d_sums_of d_next_swap d_behind F_swaps_between m_swaps_between
  obtain ⟨f_are_swaps_between, F_are_swaps_between, m_are_swaps_between⟩ := fnAt KX G c "are_swaps_between" 33 12 12 rfl rfl
  have d_are_swaps_between := df_are_swaps_between (ca := He.ga K) (P := PR) (w := w) (base := base) B d_check_grid d_is_swap d_behind F_are_swaps_between m_are_swaps_between
  obtain ⟨f_l_hash, F_l_hash, m_l_hash⟩ := fnAt KX G c "_law_hash" 35 13 13 rfl rfl
  have d_l_hash := df_l_hash (P := PR) (w := w) (base := base) B  F_l_hash m_l_hash
  obtain ⟨f_l_random, F_l_random, m_l_random⟩ := fnAt KX G c "_law_random" 36 14 14 rfl rfl
  have d_l_random := df_l_random (P := PR) (w := w) (base := base) B d_l_hash F_l_random m_l_random
  obtain ⟨f_l_pick, F_l_pick, m_l_pick⟩ := fnAt KX G c "_law_pick" 39 17 17 rfl rfl
  have d_l_pick := df_l_pick (P := PR) (w := w) (base := base) B d_l_random F_l_pick m_l_pick
  obtain ⟨f_l_alike, F_l_alike, m_l_alike⟩ := fnAt KX G c "_law_alike" 42 20 20 rfl rfl
  have d_l_alike := df_l_alike (P := PR) (w := w) (base := base) B  F_l_alike m_l_alike
  obtain ⟨f_l_is_count, F_l_is_count, m_l_is_count⟩ := fnAt KX G c "_law_is_count" 45 23 23 rfl rfl
  have d_l_is_count := df_l_is_count (P := PR) (w := w) (base := base) B  F_l_is_count m_l_is_count
  obtain ⟨f_l_margins, F_l_margins, m_l_margins⟩ := fnAt KX G c "_law_margins" 46 24 24 rfl rfl
  have d_l_margins := df_l_margins (P := PR) (w := w) (base := base) B  F_l_margins m_l_margins
  obtain ⟨f_l_grid, F_l_grid, m_l_grid⟩ := fnAt KX G c "_law_grid" 47 25 25 rfl rfl
  have d_l_grid := df_l_grid (P := PR) (w := w) (base := base) B d_l_random F_l_grid m_l_grid
  obtain ⟨f_l_swap_ok, F_l_swap_ok, m_l_swap_ok⟩ := fnAt KX G c "_law_swap_ok" 48 26 26 rfl rfl
  have d_l_swap_ok := df_l_swap_ok (P := PR) (w := w) (base := base) B d_l_is_count F_l_swap_ok m_l_swap_ok
  obtain ⟨f_l_behind, F_l_behind, m_l_behind⟩ := fnAt KX G c "_law_behind" 49 27 27 rfl rfl
  have d_l_behind := df_l_behind (P := PR) (w := w) (base := base) B  F_l_behind m_l_behind
  obtain ⟨f_l_wrong_grids, F_l_wrong_grids, m_l_wrong_grids⟩ := fnAt KX G c "_law_wrong_grids" 50 28 28 rfl rfl
  have d_l_wrong_grids := df_l_wrong_grids (P := PR) (w := w) (base := base) B  F_l_wrong_grids m_l_wrong_grids
  obtain ⟨f_l_are_swaps, F_l_are_swaps, m_l_are_swaps⟩ := fnAt KX G c "_law_are_swaps" 51 29 29 rfl rfl
  have d_l_are_swaps := df_l_are_swaps (P := PR) (w := w) (base := base) B d_l_swap_ok d_l_behind F_l_are_swaps m_l_are_swaps
  obtain ⟨f_l_drawn_swap, F_l_drawn_swap, m_l_drawn_swap⟩ := fnAt KX G c "_law_drawn_swap" 52 30 30 rfl rfl
  have d_l_drawn_swap := df_l_drawn_swap (P := PR) (w := w) (base := base) B d_l_random F_l_drawn_swap m_l_drawn_swap
  obtain ⟨f_l_same, F_l_same, m_l_same⟩ := fnAt KX G c "_law_same" 40 18 18 rfl rfl
  obtain ⟨f_l_caught, F_l_caught, m_l_caught⟩ := fnAt KX G c "_law_caught" 41 19 19 rfl rfl
  obtain ⟨f_l_refused, F_l_refused, m_l_refused⟩ := fnAt KX G c "_law_refused" 43 21 21 rfl rfl
  obtain ⟨f_l_all_refused, F_l_all_refused, m_l_all_refused⟩ := fnAt KX G c "_law_all_refused" 44 22 22 rfl rfl
  obtain ⟨f_l_cell, F_l_cell, m_l_cell⟩ := fnAt KX G c "_law_cell" 37 15 15 rfl rfl
  obtain ⟨f_l_generator, F_l_generator, m_l_generator⟩ := fnAt KX G c "_law_generator" 38 16 16 rfl rfl
  obtain ⟨f_law, F_law, m_law⟩ := fnAt KX G c "law" 55 33 33 rfl rfl
  obtain ⟨f_l_swaps_right, F_l_swaps_right, m_l_swaps_right⟩ := fnAt KX G c "_law_swaps_right" 53 31 31 rfl rfl
  obtain ⟨f_l_pair_right, F_l_pair_right, m_l_pair_right⟩ := fnAt KX G c "_law_pair_right" 54 32 32 rfl rfl
  have d_l_same := df_l_same (P := PR) (w := w) (base := base) B F_l_same m_l_same 8
  have Rk : RefKit PR w K mg base (He.ga K) := ⟨B, X, d_l_alike, ⟨_, _, F_l_caught, m_l_caught⟩, ⟨_, _, F_l_refused, m_l_refused⟩⟩
  have d_l_pair_right := df_l_pair_right (ca := He.ga K) (P := PR) (w := w) (base := base) B d_swaps_between d_l_margins d_l_are_swaps d_l_drawn_swap d_l_same d_are_swaps_between F_l_pair_right m_l_pair_right
  have Msr := mak_sr c (tb ("_law_swaps_right", none) (.tail _ (.head _)))
  have Mlaw := mak_law c (tb ("law", none) (.head _))
  have d_l_swaps_right := df_l_swaps_right (ca := He.ga K) (P := PR) (w := w) (base := base) B d_l_drawn_swap d_l_swap_ok d_l_behind d_l_same d_swapped Rk F_l_swaps_right m_l_swaps_right Msr (code_of F_l_swaps_right)
  obtain ⟨ds, ρ', hgen, Gn⟩ := generator_ok (cell0 ns)
  obtain ⟨ρ2, hres⟩ := law_ok X Gn
  exact law_run (P := PR) (w := w) (base := base) (g := g_lawT K (He.ga K)) B F_l_cell m_l_cell F_l_generator m_l_generator F_law (code_of F_law)
    (fun A outer s H E cn => b_lawT B d_l_random d_l_grid d_l_pick d_l_drawn_swap d_l_swap_ok d_l_behind d_l_swaps_right d_l_pair_right d_l_wrong_grids d_swapped d_swaps_between d_are_swaps_between d_l_same Rk ⟨_, _, F_l_all_refused, m_l_all_refused⟩ (mk_of Mlaw (mem_TbK (.head _) rfl)) cn)
    rfl ⟨rfl, by decide, by decide⟩ e0 (startH_sql KX ha hi hl aT) tbs hgen hres fun _ => rfl
end K54
open PySem PySem.W PySem.Calls PyProof.Rows
theorem PySem.Challenge.cw_addsup_k54_whole_swaps_join_all_grids_holds : PySem.Challenge.rw_addsup_k54_whole_swaps_join_all_grids.Holds := by
  w_on; o_law
  refine HandSHeadRun.head_any (r := OpenLaw.row PySem.Challenge.rw_addsup_k54_whole_swaps_join_all_grids) (q := view (OpenLaw.row PySem.Challenge.rw_addsup_k54_whole_swaps_join_all_grids).prog [55]) (H := K54.hk) (ob := K54.ob) (M := 40000) (loose := K54.loose) (d := HandSHeadRun.topDef (OpenLaw.row PySem.Challenge.rw_addsup_k54_whole_swaps_join_all_grids).prog 55) (kwd := []) K54.ob_eq
    (by kernel_rfl) (fun s => by kernel_rfl) K54.run (by kernel_rfl) (by kernel_rfl) (by kernel_rfl) (by rfl) (by first | assumption | decide +kernel) (by decide +kernel) ⟨rfl, rfl, rfl, rfl, rfl, by decide +kernel⟩ ?hw ?hc
  case hw => w_witness2
  case hc =>
    refine Att.attach_callB (l := PySem.Challenge.rw_addsup_k54_whole_swaps_join_all_grids) (n := 63) rfl (by kernel_rfl) fun w s₀ s₁ mg mb fa o pm cd doc a vs ns G Y ho hd hcd hmg hobj hints hlen hbits hg => ?_
    obtain ⟨K, KX, c⟩ := Y
    have hmg2 : mg ("law" : PySem.Str) = some (.ref fa) := by
      have e : (HandSHeadRun.topDef (OpenLaw.row PySem.Challenge.rw_addsup_k54_whole_swaps_join_all_grids).prog 55).name = ("law" : PySem.Str) := by kernel_rfl
      rw [← e]
      exact hmg
    obtain ⟨fd, F, m⟩ := K54.fnAt KX G.T.g c "law" 55 33 33 rfl rfl
    rw [hmg2] at m
    cases m
    exact K54.law_end KX G.T.g c G.T.b G.T.builtins G.T.nolimit hg G.T.bmain hobj hints (Nat.le_trans hlen (by decide))
